import PyProof.Rows.All
import Wide.All
import OpenK.AllK
import Wide.FinOn
import HandS.ForMost
import HandS.Exc
import HandS.TryOnly
import HandS.ExcOwn
import HandS.WordsExc
import HandS.TupAny
import HandS.TupMul
import HandS.IsInst
import HandS.Conv
import HandS.Flow
import HandS.Style
import HandS.Deep
import HandS.Zip
import HandS.Defaults
import HandS.Lambda
import HandS.EndTab
import HandS.ExcIs
import PyProof.ListMulRoad
import KE.DataMinMax
import KE.DatumOrd
import KE.DataIsa
import HandS.Flt
import KE.DataAny
import PyProof.ExcBaseAll.ValueError
import KE.KDictZip
import KE.KDictItemsList
import HandS.Dict
import HandS.Small
import PyProof.DictUpdate
import HandS.SortInts
import KE.KRevSl
import HandS.TryMany
import HandS.Nested
import KE.KNestM
import HandS.MakeKwOnly
import HandS.CallSlots
import HandS.SetKeys
import HandS.More
import KE.SortData
import HandS.DictTup
import HandS.DictComp
import HandS.TupSets
import KE.KUnpackStar
import KE.KDictCopyH
import HandS.SetFor
import HandS.Strs
import PyProof.SumWalkG
import PyProof.WalksMore
import HandS.SetBool
import HandS.FStr
import KE.GoesRaise
import HandS.HotCalls
import KE.SortKeyHeap
import HandS.ExcValue
import PySem.Challenge.RW_paintyard_k12_whole_few_colours
set_option Elab.async false
set_option linter.all false
set_option maxRecDepth 100000
set_option maxHeartbeats 1000000

namespace Pm
open PySem L2

structure LT where
  name : Str
  qual : Str
  params : Arguments
  body : FuncBody
  scope : Scope
  ps : List Str
  fr : List Str
inductive D where
  | non | bl (b : Bool) | int (i : Int) | str (x : Str)
  | tup (l : List D) | lst (l : List D) | scr (l : List Int)
  | dk (l : List (Key × D)) | dt (l : List (List Key × D))
  | town | fn (k : Nat) (T : LT) (env : List D) | obj (k : Nat)
  /-- an exception that a clause caught, by its class; a tuple that is known to have no attributes -/
  | exc (c : Str) | kt (l : List D)

inductive Sl where
  | no | va (d : D) | ow (d : D)

inductive Ob where
  | lst (l : List D) | ins (c : Str) (fs : List (Str × D)) | dct (es : List (Str × D))
structure W where
  town : Option (List Int)
  objs : List (Option Ob)
inductive Rs (α : Type) where
  | ok (a : α) (w : W) | ex (c : Str) (w : W) | bad
abbrev M (α : Type) := W → Rs α

structure Wa where
  town : Option Addr
  tabs : List Addr
  ob : List (Addr × Bool)
def Wa.lv (ws : Wa) (a : Addr) : Prop := (a, true) ∈ ws.ob
def Wa.has (ws : Wa) (a : Addr) : Prop := ws.town = some a ∨ a ∈ ws.tabs ∨ ws.lv a
structure Wa.le (ws ws' : Wa) : Prop where
  tw : ∀ a, ws.town = some a → ws'.town = some a
  ob : ∀ (k : Nat) (a : Addr) (b : Bool), ws.ob[k]? = some (a, b) → ∃ b', ws'.ob[k]? = some (a, b')
theorem Wa.le_refl (ws : Wa) : ws.le ws := ⟨fun _ h => h, fun _ _ b h => ⟨b, h⟩⟩
theorem Wa.le_trans {a b c : Wa} (h : a.le b) (h' : b.le c) : a.le c := ⟨fun x e => h'.tw x (h.tw x e), fun k x y e => let ⟨_, e1⟩ := h.ob k x y e; h'.ob k x _ e1⟩


def makers : List (Str × Str) := [("covered", "<lambda>"), ("stroked", "<lambda>"), ("placed", "<lambda>"), ("laid", "<lambda>"), ("middled", "<lambda>"), ("cut_box", "<lambda>"), ("convolved", "told")]
def codeTab (K : PySem.W.Frag) (x : Str) : Option (Addr × Addr) := match PySem.W.nsIn K mainGlobals x with
  | some (some (.ref f)) => (match K.lookup f with
    | some ⟨_, _, .func fd, _⟩ => (match fd.code with
      | .ref c => (match K.lookup c with
        | some ⟨_, _, .fields vs, _⟩ => (match (vs[11]? : Option Value) with
          | some (.ref P) => some (c, P)
          | _ => none)
        | _ => none)
      | _ => none)
    | _ => none)
  | _ => none
def innerName (x : Str × Str) : Str := (x.1 ++ ".<locals>.") ++ x.2
def tabsK (K : PySem.W.Frag) : List (Addr × Str) := makers.filterMap fun x => (codeTab K x.1).map fun p => (p.2, innerName x)
def TB (K : PySem.W.Frag) (ws : Wa) (H : Hp) : Prop := ws.tabs = (tabsK K).map (·.1) ∧ LamX.Tabs (tabsK K) H
def LamO (f : Addr) (T : LT) (cl : List (Str × Addr)) (c : Addr) : HO := .ext fun h => ∃ (od : Option Addr) (sl : Array (Option Value)) (doc pm ctv : Value),
  h.get? f = some (⟨.type "function", od, .func { name := T.name, qualname := T.qual, params := T.params, body := T.body, scope := T.scope, globals := mainGlobals, closure := cl, defaults := .none, kwdefaults := .none, doc := doc, pyModule := pm, annotations := none, code := .ref c, closureTuple := ctv, builtins := builtinsNs }, sl⟩ : Obj)
def AnyO (a : Addr) : HO := .ext fun h => ∃ o, h.get? a = some o
structure CellH (B : Addr → Prop) (H : Hp) (cl : List (Str × Addr)) (fr : List Str) (vs : List V) : Prop where
  len : vs.length = fr.length
  inj : ∀ x y c, cl.lookup x = some c → cl.lookup y = some c → x = y
  all : ∀ y c, cl.lookup y = some c → y ∈ fr
  has : ∀ (i : Nat) (y : Str), fr[i]? = some y → ∃ (c : Addr) (o : Obj) (u : Value), cl.lookup y = some c ∧ ¬ B c ∧ H c = some (.frz o (AnyO c)) ∧ o.data = .cell (some u) ∧ ∀ v, vs[i]? = some v → RelV v u

def KT (K : PySem.W.Frag) (a : Addr) (xs : List V) : Prop := ∃ (o : Obj) (its : Array Value) (n : Nat), K.lookup a = some o ∧ o.cls = .type "tuple" ∧ o.data = .seq its n ∧ its.size ≤ sizeLine ∧ Vals xs its.toList
def KL (K : PySem.W.Frag) (a : Addr) (xs : List V) : Prop := ∃ (o : Obj) (its : Array Value) (n : Nat), K.lookup a = some o ∧ o.cls = .type "list" ∧ o.dict = none ∧ o.data = .seq its n ∧ its.size ≤ sizeLine ∧ Vals xs its.toList
def clsK (K : PySem.W.Frag) (c : Str) : Addr := match PySem.W.nsIn K mainGlobals c with
  | some (some (.ref C)) => C
  | _ => 0
def ExcO (a C : Addr) : HO := .ext fun h => ∃ ox, PySem.W.InstAt h a ox C none
def kfl (K : PySem.W.Frag) : Bool := match PySem.W.nsIn K mainGlobals "_law_screen_holds", PySem.W.nsIn K mainGlobals "_law_wide" with
  | some (some _), _ => true
  | _, some (some _) => true
  | _, _ => false
def Tp (K : PySem.W.Frag) (B : Addr → Prop) (H : Hp) (a : Addr) (xs : List V) : Prop := (¬ B a ∧ H a = some (.tup xs)) ∨ KT K a xs ∨ (kfl K = true ∧ ¬ B a ∧ ∃ o, H a = some (.frz o (.tup xs)))

def Lp (K : PySem.W.Frag) (B : Addr → Prop) (H : Hp) (a : Addr) (xs : List V) : Prop := (¬ B a ∧ Rd H a (.lst xs)) ∨ KL K a xs

mutual
inductive DR (K : PySem.W.Frag) (ws : Wa) (B : Addr → Prop) (H : Hp) : V → D → Prop
  | non : DR K ws B H .non .non
  | bl (b : Bool) : DR K ws B H (.bl b) (.bl b)
  | int (i : Int) : DR K ws B H (.int i) (.int i)
  | str (x : Str) : DR K ws B H (.str x) (.str x)
  | tup {a : Addr} {vs : List V} {ds : List D} : ds.length ≤ sizeLine → Tp K B H a vs → DRs K ws B H vs ds → DR K ws B H (.ref a) (.tup ds)
  | lst {a : Addr} {vs : List V} {ds : List D} : ds.length ≤ sizeLine → ¬ B a → H a = some (.lst vs) → DRs K ws B H vs ds → DR K ws B H (.ref a) (.lst ds)
  | scr {a : Addr} (ns : List Int) : Lp K B H a (ns.map V.int) → DR K ws B H (.ref a) (.scr ns)
  | dk {a : Addr} {kvs : List (Key × V)} {es : List (Key × D)} : ¬ B a → H a = some (.dK kvs) → kvs.map (·.1) = es.map (·.1) → DRs K ws B H (kvs.map (·.2)) (es.map (·.2)) → DR K ws B H (.ref a) (.dk es)
  | dt {a : Addr} {kvs : List (List Key × V)} {es : List (List Key × D)} : ¬ B a → H a = some (.dT kvs) → kvs.map (·.1) = es.map (·.1) → DRs K ws B H (kvs.map (·.2)) (es.map (·.2)) → DR K ws B H (.ref a) (.dt es)
  | town {a : Addr} : ws.town = some a → DR K ws B H (.ref a) .town
  | obj {a : Addr} {k : Nat} {b : Bool} : ws.ob[k]? = some (a, b) → DR K ws B H (.ref a) (.obj k)
  | fn {f c : Addr} {cl : List (Str × Addr)} {k : Nat} {T : LT} {vs : List V} {ds : List D} : ¬ B f → H f = some (LamO f T cl c) → ¬ B c → H c = some (LamX.CodeO c T.qual) → CellH B H cl T.fr vs → DRs K ws B H vs ds → DR K ws B H (.ref f) (.fn k T ds)
  | exc {a : Addr} {c : Str} : ¬ B a → H a = some (ExcO a (clsK K c)) → DR K ws B H (.ref a) (.exc c)
  | kt {a : Addr} {o : Obj} {vs : List V} {ds : List D} : ds.length ≤ sizeLine → ¬ B a → H a = some (.frz o (.tup vs)) → o.dict = none → DRs K ws B H vs ds → DR K ws B H (.ref a) (.kt ds)
inductive DRs (K : PySem.W.Frag) (ws : Wa) (B : Addr → Prop) (H : Hp) : List V → List D → Prop
  | nil : DRs K ws B H [] []
  | cons {v : V} {vs : List V} {d : D} {ds : List D} : DR K ws B H v d → DRs K ws B H vs ds → DRs K ws B H (v :: vs) (d :: ds)
end

section
variable {K : PySem.W.Frag} {ws ws' : Wa} {B B' : Addr → Prop} {H H' : Hp}

theorem rd_keep {a : Addr} {u : HO} (hk : ∀ a o, H a = some o → ¬ B a → H' a = some o) (n : ¬ B a) (h : Rd H a u) : Rd H' a u := by
  rcases h with h | ⟨o, h⟩
  · exact .inl (hk a _ h n)
  · exact .inr ⟨o, hk a _ h n⟩
theorem rd_some {a : Addr} {u : HO} (h : Rd H a u) : H a ≠ none := by
  rcases h with h | ⟨o, h⟩ <;> rw [h] <;> exact fun e => by cases e
theorem nb_keep {a : Addr} (hb : ∀ a, B' a → B a ∨ H a = none) (n : ¬ B a) (h : H a ≠ none) : ¬ B' a := fun b => by
  rcases hb a b with z | z
  · exact n z
  · exact h z
theorem Tp.keep {a : Addr} {xs : List V} (hk : ∀ a o, H a = some o → ¬ B a → H' a = some o) (hb : ∀ a, B' a → B a ∨ H a = none) (h : Tp K B H a xs) : Tp K B' H' a xs := by
  rcases h with ⟨n, h⟩ | h | ⟨f, n, o, h⟩
  · exact .inl ⟨nb_keep hb n (by rw [h]; exact fun e => by cases e), hk a _ h n⟩
  · exact .inr (.inl h)
  · exact .inr (.inr ⟨f, nb_keep hb n (by rw [h]; exact fun e => by cases e), o, hk a _ h n⟩)
theorem Lp.keep {a : Addr} {xs : List V} (hk : ∀ a o, H a = some o → ¬ B a → H' a = some o) (hb : ∀ a, B' a → B a ∨ H a = none) (h : Lp K B H a xs) : Lp K B' H' a xs := by
  rcases h with ⟨n, h⟩ | h
  · exact .inl ⟨nb_keep hb n (rd_some h), rd_keep hk n h⟩
  · exact .inr h
theorem Lp.sq {a : Addr} {xs : List V} (h : Lp K B H a xs) : SqL K H a xs := by
  rcases h with ⟨_, h⟩ | h
  · exact .inl h
  · exact .inr h
theorem Tp.sq {a : Addr} {xs : List V} (h : Tp K B H a xs) : SqT K H a xs := by
  rcases h with ⟨_, h⟩ | h | ⟨_, _, o, h⟩
  · exact .inl (.inl h)
  · exact .inr h
  · exact .inl (.inr ⟨o, h⟩)
theorem sm {o : HO} {x : Option HO} (h : x = some o) : x ≠ none := by rw [h]; intro z; cases z
theorem CellH.keep {cl : List (Str × Addr)} {fr : List Str} {vs : List V} (hk : ∀ a o, H a = some o → ¬ B a → H' a = some o) (hb : ∀ a, B' a → B a ∨ H a = none) (h : CellH B H cl fr vs) : CellH B' H' cl fr vs :=
  ⟨h.len, h.inj, h.all, fun i y e => let ⟨c, o, u, h1, h2, h3, h4, h5⟩ := h.has i y e; ⟨c, o, u, h1, nb_keep hb h2 (sm h3), hk _ _ h3 h2, h4, h5⟩⟩

mutual
theorem DR.keep (hw : ws.le ws') (hk : ∀ a o, H a = some o → ¬ B a → H' a = some o) (hb : ∀ a, B' a → B a ∨ H a = none) : ∀ {v : V} {d : D}, DR K ws B H v d → DR K ws' B' H' v d
  | _, _, .non => .non
  | _, _, .bl b => .bl b
  | _, _, .int i => .int i
  | _, _, .str x => .str x
  | _, _, .tup z h r => .tup z (h.keep hk hb) (DRs.keep hw hk hb r)
  | _, _, .lst z n h r => .lst z (nb_keep hb n (sm h)) (hk _ _ h n) (DRs.keep hw hk hb r)
  | _, _, .scr ns h => .scr ns (h.keep hk hb)
  | _, _, .dk n h e r => .dk (nb_keep hb n (sm h)) (hk _ _ h n) e (DRs.keep hw hk hb r)
  | _, _, .dt n h e r => .dt (nb_keep hb n (sm h)) (hk _ _ h n) e (DRs.keep hw hk hb r)
  | _, _, .town h => .town (hw.tw _ h)
  | _, _, .obj h => let ⟨_, h⟩ := hw.ob _ _ _ h; .obj h
  | _, _, .fn n1 h1 n2 h2 hc r => .fn (nb_keep hb n1 (sm h1)) (hk _ _ h1 n1) (nb_keep hb n2 (sm h2)) (hk _ _ h2 n2) (hc.keep hk hb) (DRs.keep hw hk hb r)
  | _, _, .exc n h => .exc (nb_keep hb n (sm h)) (hk _ _ h n)
  | _, _, .kt z n h d r => .kt z (nb_keep hb n (sm h)) (hk _ _ h n) d (DRs.keep hw hk hb r)
theorem DRs.keep (hw : ws.le ws') (hk : ∀ a o, H a = some o → ¬ B a → H' a = some o) (hb : ∀ a, B' a → B a ∨ H a = none) : ∀ {vs : List V} {ds : List D}, DRs K ws B H vs ds → DRs K ws' B' H' vs ds
  | _, _, .nil => .nil
  | _, _, .cons h r => .cons (DR.keep hw hk hb h) (DRs.keep hw hk hb r)
end
theorem DRs.length : ∀ {vs : List V} {ds : List D}, DRs K ws B H vs ds → vs.length = ds.length
  | _, _, .nil => rfl
  | _, _, .cons _ r => congrArg (· + 1) (DRs.length r)
theorem DRs.get : ∀ {vs : List V} {ds : List D} {i : Nat} {d : D}, DRs K ws B H vs ds → ds[i]? = some d → ∃ v, vs[i]? = some v ∧ DR K ws B H v d
  | _, _, _, _, .nil, e => by simp at e
  | _, _, 0, _, .cons h _, e => by simp at e; subst e; exact ⟨_, rfl, h⟩
  | _, _, i + 1, d, .cons _ r, e => by
    obtain ⟨v, h1, h2⟩ := DRs.get (i := i) (d := d) r (by simpa using e)
    exact ⟨v, by simpa using h1, h2⟩
theorem DRs.append : ∀ {vs us : List V} {ds es : List D}, DRs K ws B H vs ds → DRs K ws B H us es → DRs K ws B H (vs ++ us) (ds ++ es)
  | _, _, _, _, .nil, s => s
  | _, _, _, _, .cons h r, s => .cons h (DRs.append r s)
theorem DRs.take : ∀ {vs : List V} {ds : List D} (n : Nat), DRs K ws B H vs ds → DRs K ws B H (vs.take n) (ds.take n)
  | _, _, 0, _ => .nil
  | _, _, _ + 1, .nil => .nil
  | _, _, n + 1, .cons h r => .cons h (DRs.take n r)
theorem DRs.drop : ∀ {vs : List V} {ds : List D} (n : Nat), DRs K ws B H vs ds → DRs K ws B H (vs.drop n) (ds.drop n)
  | _, _, 0, r => r
  | _, _, _ + 1, .nil => .nil
  | _, _, n + 1, .cons _ r => DRs.drop n r
theorem DRs.set {v : V} {d : D} (h : DR K ws B H v d) : ∀ {vs : List V} {ds : List D} (i : Nat), DRs K ws B H vs ds → DRs K ws B H (vs.set i v) (ds.set i d)
  | _, _, _, .nil => .nil
  | _, _, 0, .cons _ t => .cons h t
  | _, _, i + 1, .cons q t => .cons q (DRs.set h i t)
theorem DRs.reverse : ∀ {vs : List V} {ds : List D}, DRs K ws B H vs ds → DRs K ws B H vs.reverse ds.reverse
  | _, _, .nil => .nil
  | _, _, .cons h r => by simp only [List.reverse_cons]; exact (DRs.reverse r).append (.cons h .nil)
theorem DRs.one {v : V} {d : D} (h : DR K ws B H v d) : DRs K ws B H [v] [d] := .cons h .nil
theorem DRs.replicate {v : V} {d : D} (h : DR K ws B H v d) : ∀ n, DRs K ws B H (List.replicate n v) (List.replicate n d)
  | 0 => .nil
  | n + 1 => .cons h (DRs.replicate h n)
theorem DRs.ints : ∀ (ns : List Int), DRs K ws B H (ns.map V.int) (ns.map D.int)
  | [] => .nil
  | _ :: r => .cons (.int _) (DRs.ints r)
theorem DR.int_of {v : V} {i : Int} (h : DR K ws B H v (.int i)) : v = .int i := by cases h; rfl
theorem DRs.of_ints : ∀ {vs : List V} (ns : List Int), DRs K ws B H vs (ns.map D.int) → vs = ns.map V.int
  | _, [], h => by cases h; rfl
  | _, n :: r, h => by
    cases h with
    | cons h1 h2 => rw [h1.int_of, DRs.of_ints r h2]; rfl
theorem DRs.of_bls : ∀ {vs : List V} (ns : List Bool), DRs K ws B H vs (ns.map D.bl) → vs = ns.map V.bl
  | _, [], h => by cases h; rfl
  | _, n :: r, h => by
    cases h with
    | cons h1 h2 => cases h1; rw [DRs.of_bls r h2]; rfl
end

def DW (K : PySem.W.Frag) (ws : Wa) (B : Addr → Prop) (H : Hp) (v : V) : D → Prop
  | .non => v = .non
  | .bl b => v = .bl b
  | .int i => v = .int i
  | .str x => v = .str x
  | .tup ds => ds.length ≤ sizeLine ∧ ∃ a vs, v = .ref a ∧ Tp K B H a vs ∧ DRs K ws B H vs ds
  | .lst ds => ds.length ≤ sizeLine ∧ ∃ a vs, v = .ref a ∧ H a = some (.lst vs) ∧ DRs K ws B H vs ds
  | .scr ns => ∃ a, v = .ref a ∧ SqL K H a (ns.map V.int)
  | .dk es => ∃ a kvs, v = .ref a ∧ H a = some (.dK kvs) ∧ kvs.map (·.1) = es.map (·.1) ∧ DRs K ws B H (kvs.map (·.2)) (es.map (·.2))
  | .dt es => ∃ a kvs, v = .ref a ∧ H a = some (.dT kvs) ∧ kvs.map (·.1) = es.map (·.1) ∧ DRs K ws B H (kvs.map (·.2)) (es.map (·.2))
  | .town => False
  | .fn _ _ _ => False
  | .obj _ => False
  | .exc _ => False
  | .kt _ => False

def OO (K : PySem.W.Frag) (ws : Wa) (B : Addr → Prop) (H : Hp) (a : Addr) : D → Prop
  | .lst ds => ∃ vs, H a = some (.lst vs) ∧ ds.length ≤ sizeLine ∧ DRs K ws B H vs ds
  | .dk es => ∃ kvs, H a = some (.dK kvs) ∧ kvs.map (·.1) = es.map (·.1) ∧ DRs K ws B H (kvs.map (·.2)) (es.map (·.2))
  | .dt es => ∃ kvs, H a = some (.dT kvs) ∧ kvs.map (·.1) = es.map (·.1) ∧ DRs K ws B H (kvs.map (·.2)) (es.map (·.2))
  | _ => False

def Own (l : List Sl) (σ : L2.St) (a : Addr) : Prop := ∃ (i : Nat) (d : D), l[i]? = some (Sl.ow d) ∧ σ[i]? = some (some (V.ref a))
def Bad (ws : Wa) (B0 : Addr → Prop) (l : List Sl) (σ : L2.St) (a : Addr) : Prop := ws.has a ∨ B0 a ∨ Own l σ a
def TW (ws : Wa) (w : W) (H : Hp) : Prop := match w.town, ws.town with
  | none, none => True
  | some l, some t => H t = some (.lst (l.map V.int))
  | _, _ => False
mutual
inductive TR (K : PySem.W.Frag) (H : Hp) : V → D → Prop
  | non : TR K H .non .non
  | bl (b : Bool) : TR K H (.bl b) (.bl b)
  | int (i : Int) : TR K H (.int i) (.int i)
  | str (x : Str) : TR K H (.str x) (.str x)
  | tup {a : Addr} {vs : List V} {ds : List D} : ds.length ≤ sizeLine → (H a = some (.tup vs) ∨ KT K a vs) → TRs K H vs ds → TR K H (.ref a) (.tup ds)
inductive TRs (K : PySem.W.Frag) (H : Hp) : List V → List D → Prop
  | nil : TRs K H [] []
  | cons {v : V} {vs : List V} {d : D} {ds : List D} : TR K H v d → TRs K H vs ds → TRs K H (v :: vs) (d :: ds)
end
section
variable {K : PySem.W.Frag} {H H' : Hp}
mutual
theorem TR.keep (ht : ∀ a xs, H a = some (.tup xs) → H' a = some (.tup xs)) : ∀ {v : V} {d : D}, TR K H v d → TR K H' v d
  | _, _, .non => .non
  | _, _, .bl b => .bl b
  | _, _, .int i => .int i
  | _, _, .str x => .str x
  | _, _, .tup z h r => .tup z (h.imp (ht _ _) id) (TRs.keep ht r)
theorem TRs.keep (ht : ∀ a xs, H a = some (.tup xs) → H' a = some (.tup xs)) : ∀ {vs : List V} {ds : List D}, TRs K H vs ds → TRs K H' vs ds
  | _, _, .nil => .nil
  | _, _, .cons h r => .cons (TR.keep ht h) (TRs.keep ht r)
end
end
def FR (K : PySem.W.Frag) (ob : List (Addr × Bool)) (H : Hp) (v : V) (d : D) : Prop := TR K H v d ∨ ∃ k b c, d = .obj k ∧ ob[k]? = some (b, c) ∧ v = .ref b
abbrev FP (K : PySem.W.Frag) (ob : List (Addr × Bool)) (H : Hp) (x : Str × V) (y : Str × D) : Prop := x.1 = y.1 ∧ FR K ob H x.2 y.2
def kvsOf (fv : List (Str × V)) : List (Key × V) := fv.map fun p => (Sum.inr p.1, p.2)
def O1 (K : PySem.W.Frag) (ob : List (Addr × Bool)) (H : Hp) (a : Addr) : Ob → Prop
  | .lst ds => ∃ vs, H a = some (.lst vs) ∧ ds.length ≤ sizeLine ∧ TRs K H vs ds
  | .ins c fs => ∃ dx fv, H a = some (.ins (clsK K c) dx fv) ∧ fs.length ≤ 100 ∧ Paired (FP K ob H) fv fs
  | .dct fs => ∃ fv, H a = some (.dK (kvsOf fv)) ∧ fs.length ≤ 100 ∧ Paired (FP K ob H) fv fs
structure OB (K : PySem.W.Frag) (ws : Wa) (w : W) (H : Hp) : Prop where
  len : ws.ob.length = w.objs.length
  live : ∀ (k : Nat) (o : Ob), w.objs[k]? = some (some o) → ∃ a, ws.ob[k]? = some (a, true) ∧ O1 K ws.ob H a o
  dead : ∀ (k : Nat), w.objs[k]? = some none → ∃ a, ws.ob[k]? = some (a, false)
  nd : ∀ (j k : Nat) (a : Addr), ws.ob[j]? = some (a, true) → ws.ob[k]? = some (a, true) → j = k
  nt : ∀ a, ws.lv a → ws.town ≠ some a
structure WR (K : PySem.W.Frag) (ws : Wa) (w : W) (H : Hp) : Prop where
  tw : TW ws w H
  tb : TB K ws H
  ob : OB K ws w H
theorem O1.there {K : PySem.W.Frag} {ob : List (Addr × Bool)} {H : Hp} {a : Addr} {o : Ob} (h : O1 K ob H a o) : (∃ vs, H a = some (.lst vs)) ∨ (∃ C dx fv, H a = some (.ins C dx fv)) ∨ ∃ kv, H a = some (.dK kv) := by
  cases o with
  | lst ds => exact .inl ⟨_, h.choose_spec.1⟩
  | ins c fs => obtain ⟨dx, fv, h, _⟩ := h; exact .inr (.inl ⟨_, dx, fv, h⟩)
  | dct fs => obtain ⟨fv, h, _⟩ := h; exact .inr (.inr ⟨_, h⟩)
theorem OB.lv_at {K : PySem.W.Frag} {ws : Wa} {w : W} {H : Hp} {a : Addr} (h : OB K ws w H) (z : ws.lv a) : ∃ (k : Nat) (o : Ob), ws.ob[k]? = some (a, true) ∧ w.objs[k]? = some (some o) ∧ O1 K ws.ob H a o := by
  obtain ⟨k, hk⟩ := List.mem_iff_getElem?.mp z
  have hl : k < w.objs.length := by rw [← h.len]; exact (List.getElem?_eq_some_iff.mp hk).1
  cases q : w.objs[k] with
  | none =>
    obtain ⟨b, e⟩ := h.dead k (by rw [List.getElem?_eq_getElem hl, q])
    rw [hk] at e; cases e
  | some o =>
    have q' : w.objs[k]? = some (some o) := by rw [List.getElem?_eq_getElem hl, q]
    obtain ⟨b, e, r⟩ := h.live k o q'
    rw [hk] at e; cases e
    exact ⟨k, o, hk, q', r⟩
theorem OB.lv_lst {K : PySem.W.Frag} {ws : Wa} {w : W} {H : Hp} {a : Addr} (h : OB K ws w H) (z : ws.lv a) : (∃ vs, H a = some (.lst vs)) ∨ (∃ C dx fv, H a = some (.ins C dx fv)) ∨ ∃ kv, H a = some (.dK kv) := by
  obtain ⟨_, _, _, _, r⟩ := h.lv_at z
  exact r.there
theorem FR.keep {K : PySem.W.Frag} {ob : List (Addr × Bool)} {H H' : Hp} {v : V} {d : D} (ht : ∀ a xs, H a = some (.tup xs) → H' a = some (.tup xs)) (h : FR K ob H v d) : FR K ob H' v d := h.imp (TR.keep ht) id
theorem FR.mono {K : PySem.W.Frag} {ob ob' : List (Addr × Bool)} {H : Hp} {v : V} {d : D} (hm : ∀ (k : Nat) a b, ob[k]? = some (a, b) → ∃ b', ob'[k]? = some (a, b')) (h : FR K ob H v d) : FR K ob' H v d := by
  rcases h with h | ⟨k, b, c, rfl, h, rfl⟩
  · exact .inl h
  · obtain ⟨c', h'⟩ := hm k b c h
    exact .inr ⟨k, b, c', rfl, h', rfl⟩
theorem FPs.imp {K : PySem.W.Frag} {ob ob' : List (Addr × Bool)} {H H' : Hp} (f : ∀ v d, FR K ob H v d → FR K ob' H' v d) : ∀ {fv : List (Str × V)} {fs : List (Str × D)}, Paired (FP K ob H) fv fs → Paired (FP K ob' H') fv fs
  | _, _, .nil => .nil
  | _, _, .cons h r => .cons ⟨h.1, f _ _ h.2⟩ (FPs.imp f r)
theorem O1.keep {K : PySem.W.Frag} {ob : List (Addr × Bool)} {H H' : Hp} {a : Addr} {o : Ob} (ht : ∀ a xs, H a = some (.tup xs) → H' a = some (.tup xs)) (ha : ∀ u, H a = some u → H' a = some u) (h : O1 K ob H a o) : O1 K ob H' a o := by
  cases o with
  | lst ds => obtain ⟨vs, h1, h2, h3⟩ := h; exact ⟨vs, ha _ h1, h2, h3.keep ht⟩
  | ins c fs => obtain ⟨dx, fv, h1, h2, h3⟩ := h; exact ⟨dx, fv, ha _ h1, h2, FPs.imp (fun _ _ => FR.keep ht) h3⟩
  | dct fs => obtain ⟨fv, h1, h2, h3⟩ := h; exact ⟨fv, ha _ h1, h2, FPs.imp (fun _ _ => FR.keep ht) h3⟩
theorem O1.mono {K : PySem.W.Frag} {ob ob' : List (Addr × Bool)} {H : Hp} {a : Addr} {o : Ob} (hm : ∀ (k : Nat) a b, ob[k]? = some (a, b) → ∃ b', ob'[k]? = some (a, b')) (h : O1 K ob H a o) : O1 K ob' H a o := by
  cases o with
  | lst ds => exact h
  | ins c fs => obtain ⟨dx, fv, h1, h2, h3⟩ := h; exact ⟨dx, fv, h1, h2, FPs.imp (fun _ _ => FR.mono hm) h3⟩
  | dct fs => obtain ⟨fv, h1, h2, h3⟩ := h; exact ⟨fv, h1, h2, FPs.imp (fun _ _ => FR.mono hm) h3⟩
theorem OB.keep {K : PySem.W.Frag} {ws : Wa} {w : W} {H H' : Hp} (ht : ∀ a xs, H a = some (.tup xs) → H' a = some (.tup xs)) (hl : ∀ a o, H a = some o → ws.lv a → H' a = some o) (h : OB K ws w H) : OB K ws w H' :=
  ⟨h.len, fun k o e => let ⟨a, h1, h2⟩ := h.live k o e; ⟨a, h1, h2.keep ht fun u z => hl a u z (List.mem_iff_getElem?.mpr ⟨k, h1⟩)⟩, h.dead, h.nd, h.nt⟩

theorem OB.same {K : PySem.W.Frag} {ws : Wa} {w w' : W} {H : Hp} (e : w'.objs = w.objs) (h : OB K ws w H) : OB K ws w' H := ⟨by rw [e]; exact h.len, fun k o z => h.live k o (by rw [← e]; exact z), fun k z => h.dead k (by rw [← e]; exact z), h.nd, h.nt⟩
theorem OB.keep_tbl {K : PySem.W.Frag} {ws : Wa} {w : W} {H H1 : Hp} {P : Addr} {F : Array Value → Prop} (hP : ∃ ps, H P = some (.tbl ps) ∧ F ps) (k1 : ∀ b o, H b = some o → b ≠ P → H1 b = some o) (h : OB K ws w H) : OB K ws w H1 := by
  obtain ⟨ps, hP, _⟩ := hP
  refine h.keep (fun b xs z => ?_) fun b o z l => k1 b o z fun q => ?_
  · exact k1 b _ z fun q => by rw [q, hP] at z; cases z
  · rcases h.lv_lst l with ⟨vs, y⟩ | ⟨_, _, _, y⟩ | ⟨_, y⟩ <;> (rw [q, hP] at y; cases y)
def BxO : Option HO → Prop
  | some (.ext _) => False
  | some (.tup _) => False
  | some (.frz _ (.tup _)) => False
  | _ => True
theorem BxO.nx {x : Option HO} (h : BxO x) : ∀ φ, x ≠ some (.ext φ) := fun φ e => by rw [e] at h; exact h
theorem BxO.nt {H : Hp} {a : Addr} {xs : List V} (h : BxO (H a)) : ¬ H a = some (.tup xs) := fun e => by
  rw [e] at h; exact h
def BX (ws : Wa) (B0 : Addr → Prop) (H : Hp) : Prop := ∀ a, B0 a → ¬ ws.has a ∧ BxO (H a)
theorem BX.keep {ws ws' : Wa} {B0 : Addr → Prop} {H H' : Hp} (b : BX ws B0 H) (d : ∀ a, B0 a → H a ≠ none) (n : ∀ a, ws'.has a → ws.has a ∨ H a = none) (k : ∀ a o, B0 a → H a = some o → H' a = some o) : BX ws' B0 H' := fun a h => by
  refine ⟨fun z => (n a z).elim (b a h).1 (d a h), ?_⟩
  cases q : H a with
  | none => exact absurd q (d a h)
  | some o =>
    rw [k a o h q, ← q]
    exact (b a h).2
theorem WR.wd {K : PySem.W.Frag} {ws : Wa} {w : W} {H : Hp} (h : WR K ws w H) : ∀ a, ws.has a → H a ≠ none := fun a z => by
  obtain ⟨h, ⟨hb1, hb2⟩, hg⟩ := h
  rcases z with z | z | z
  · unfold TW at h
    rw [z] at h
    cases q : w.town with
    | none => rw [q] at h; exact h.elim
    | some l => rw [q] at h; exact sm h
  · rw [hb1] at z
    obtain ⟨p, hp, rfl⟩ := List.mem_map.mp z
    obtain ⟨ps, h1, _⟩ := hb2 p hp
    exact sm h1
  · rcases hg.lv_lst z with ⟨vs, h1⟩ | ⟨_, _, _, h1⟩ | ⟨_, h1⟩ <;> exact sm h1
structure Env (K : PySem.W.Frag) (ws : Wa) (B0 : Addr → Prop) (sl : List Sl) (w : W) (σ : L2.St) (H : Hp) : Prop where
  len : sl.length = σ.length
  wr : WR K ws w H
  bx : BX ws B0 H
  dom : ∀ a, B0 a → H a ≠ none
  va : ∀ (i : Nat) (d : D), sl[i]? = some (Sl.va d) → ∃ v, σ[i]? = some (some v) ∧ DR K ws (Bad ws B0 sl σ) H v d
  ow : ∀ (i : Nat) (d : D), sl[i]? = some (Sl.ow d) → ∃ a, σ[i]? = some (some (V.ref a)) ∧ OO K ws (Bad ws B0 sl σ) H a d ∧ ¬ ws.has a ∧ ¬ B0 a
  uq : ∀ (i j : Nat) (d e : D) (a : Addr), sl[i]? = some (Sl.ow d) → sl[j]? = some (Sl.ow e) → σ[i]? = some (some (V.ref a)) → σ[j]? = some (some (V.ref a)) → i = j

theorem Env.wd {K : PySem.W.Frag} {ws : Wa} {B0 : Addr → Prop} {sl : List Sl} {w : W} {σ : L2.St} {H : Hp} (e : Env K ws B0 sl w σ H) : ∀ a, ws.has a → H a ≠ none := e.wr.wd
structure Le (ws : Wa) (O : Addr → Prop) (H : Hp) (ws' : Wa) (O' : Addr → Prop) (H' : Hp) : Prop where
  wle : ws.le ws'
  new : ∀ a, ws'.has a → ws.has a ∨ H a = none
  own : ∀ a, O' a → O a ∨ H a = none
  keep : ∀ a o, H a = some o → ¬ ws.has a → ¬ O a → H' a = some o
  ex : ∀ a, H' a = none → H a = none

section
variable {K : PySem.W.Frag} {ws ws' ws'' : Wa} {B0 : Addr → Prop} {w w' : W} {sl sl' : List Sl} {σ σ' : L2.St} {H H' H'' : Hp} {v : V} {d : D}

theorem Le.refl (ws : Wa) (O : Addr → Prop) (H : Hp) : Le ws O H ws O H := ⟨ws.le_refl, fun _ h => .inl h, fun _ h => .inl h, fun _ _ h _ _ => h, fun _ h => h⟩
theorem Le.trans {O O' O'' : Addr → Prop} (a : Le ws O H ws' O' H') (b : Le ws' O' H' ws'' O'' H'') : Le ws O H ws'' O'' H'' where
  wle := Wa.le_trans a.wle b.wle
  new := fun x h => by
    rcases b.new x h with z | z
    · exact a.new x z
    · exact .inr (a.ex x z)
  own := fun x h => by
    rcases b.own x h with z | z
    · exact a.own x z
    · exact .inr (a.ex x z)
  keep := fun x o e w u => by
    have h1 := a.keep x o e w u
    exact b.keep x o h1 (fun z => by
      rcases a.new x z with q | q
      · exact w q
      · rw [e] at q; cases q) (fun z => by
      rcases a.own x z with q | q
      · exact u q
      · rw [e] at q; cases q)
  ex := fun x h => a.ex x (b.ex x h)

theorem Le.bad (l : Le ws (Own sl σ) H ws' (Own sl' σ') H') : ∀ a, Bad ws' B0 sl' σ' a → Bad ws B0 sl σ a ∨ H a = none := fun a h => by
  rcases h with h | h | h
  · exact (l.new a h).imp .inl id
  · exact .inl (.inr (.inl h))
  · exact (l.own a h).imp (fun z => .inr (.inr z)) id
theorem Le.kp (l : Le ws (Own sl σ) H ws' (Own sl' σ') H') : ∀ a o, H a = some o → ¬ Bad ws B0 sl σ a → H' a = some o := fun a o e n =>
  l.keep a o e (fun z => n (.inl z)) (fun z => n (.inr (.inr z)))
theorem DR.le (l : Le ws (Own sl σ) H ws' (Own sl' σ') H') (h : DR K ws (Bad ws B0 sl σ) H v d) : DR K ws' (Bad ws' B0 sl' σ') H' v d := h.keep l.wle l.kp l.bad
theorem DRs.le {vs : List V} {ds : List D} (l : Le ws (Own sl σ) H ws' (Own sl' σ') H') (h : DRs K ws (Bad ws B0 sl σ) H vs ds) : DRs K ws' (Bad ws' B0 sl' σ') H' vs ds := h.keep l.wle l.kp l.bad
def Grow (H H' : Hp) : Prop := ∀ a o, H a = some o → H' a = some o
theorem Grow.refl (H : Hp) : Grow H H := fun _ _ h => h
theorem Grow.trans (a : Grow H H') (b : Grow H' H'') : Grow H H'' := fun x o h => b x o (a x o h)
theorem Grow.new {p : Addr} {o : HO} (h : H p = none) : Grow H (upd H p o) := fun a u e => by rw [upd_ne (ne_of_none e h)]; exact e
theorem Grow.ex (g : Grow H H') : ∀ a, H' a = none → H a = none := fun a h => by
  cases e : H a with
  | none => rfl
  | some o => rw [g a o e] at h; cases h
theorem Grow.le (g : Grow H H') (ws : Wa) (O : Addr → Prop) : Le ws O H ws O H' := ⟨ws.le_refl, fun _ h => .inl h, fun _ h => .inl h, fun a o e _ _ => g a o e, g.ex⟩
theorem Grow.rd {a : Addr} {u : HO} (g : Grow H H') (h : Rd H a u) : Rd H' a u := by
  rcases h with h | ⟨o, h⟩
  · exact .inl (g a _ h)
  · exact .inr ⟨o, g a _ h⟩
theorem DR.grow {B : Addr → Prop} (g : Grow H H') (h : DR K ws B H v d) : DR K ws B H' v d := h.keep ws.le_refl (fun a o e _ => g a o e) fun _ z => .inl z
theorem DRs.grow {B : Addr → Prop} {vs : List V} {ds : List D} (g : Grow H H') (h : DRs K ws B H vs ds) : DRs K ws B H' vs ds := h.keep ws.le_refl (fun a o e _ => g a o e) fun _ z => .inl z
theorem OO.grow {B : Addr → Prop} {a : Addr} (g : Grow H H') (h : OO K ws B H a d) : OO K ws B H' a d := by
  cases d <;> first
    | exact h
    | (obtain ⟨vs, e, q, r⟩ := h; exact ⟨vs, g _ _ e, q, r.grow g⟩)
theorem TW.grow {w : W} (g : Grow H H') (h : TW ws w H) : TW ws w H' := by
  unfold TW at *
  split at h
  · trivial
  · exact g _ _ h
  · exact h
theorem tabs_keep {T : List (Addr × Str)} (hk : ∀ p ∈ T, ∀ ps, H p.1 = some (.tbl ps) → H' p.1 = some (.tbl ps)) (hc : ∀ c q, H c = some (LamX.CodeO c q) → H' c = some (LamX.CodeO c q)) (h : LamX.Tabs T H) : LamX.Tabs T H' := fun p hp => by
  obtain ⟨ps, h1, h2, h3⟩ := h p hp
  exact ⟨ps, hk p hp ps h1, h2, fun pos cv e => let ⟨c, e1, e2⟩ := h3 pos cv e; ⟨c, e1, hc _ _ e2⟩⟩
theorem TB.keep (hk : ∀ a o, H a = some o → ws.has a → H' a = some o) (hc : ∀ a φ, H a = some (.ext φ) → H' a = some (.ext φ)) (h : TB K ws H) : TB K ws H' :=
  ⟨h.1, tabs_keep (fun p hp ps e => hk _ _ e (.inr (.inl (by rw [h.1]; exact List.mem_map.mpr ⟨p, hp, rfl⟩)))) (fun c q e => hc _ _ e) h.2⟩
theorem TB.grow (g : Grow H H') (h : TB K ws H) : TB K ws H' := h.keep (fun a o e _ => g a o e) fun a φ e => g a _ e
theorem TB.upd {a : Addr} {o : HO} (hn : ¬ ws.has a) (hx : ∀ φ, H a ≠ some (.ext φ)) (h : TB K ws H) : TB K ws (upd H a o) :=
  h.keep (fun b u e z => by rw [upd_ne (fun q => hn (by rw [← q]; exact z))]; exact e) fun b φ e => by rw [upd_ne (fun q => hx φ (by rw [← q]; exact e))]; exact e
theorem TB.same {t t' : Option Addr} {l : List Addr} {b b' : List (Addr × Bool)} (h : TB K ⟨t, l, b⟩ H) : TB K ⟨t', l, b'⟩ H := h
theorem OB.grow {w : W} (g : Grow H H') (h : OB K ws w H) : OB K ws w H' := h.keep (fun _ _ z => g _ _ z) fun a o z _ => g a o z
theorem rd_upd {a b : Addr} {o : HO} {xs : List V} (hx : BxO (H a)) (h : H b = some (.tup xs)) : upd H a o b = some (.tup xs) := by
  have n : b ≠ a := fun z => by subst z; exact hx.nt h
  rw [upd_ne n]; exact h
theorem OB.upd {w : W} {a : Addr} {o : HO} (hn : ¬ ws.has a) (hx : BxO (H a)) (h : OB K ws w H) : OB K ws w (upd H a o) :=
  h.keep (fun _ _ z => rd_upd hx z) fun b u z l => by rw [upd_ne (fun q => hn (by rw [← q]; exact .inr (.inr l)))]; exact z
theorem WR.grow {w : W} (g : Grow H H') (h : WR K ws w H) : WR K ws w H' := ⟨h.1.grow g, h.2.grow g, h.3.grow g⟩
theorem TW.upd {w : W} {a : Addr} {o : HO} (hn : ¬ ws.has a) (hw : TW ws w H) : TW ws w (upd H a o) := by
  unfold TW at hw ⊢
  split
  · trivial
  · rename_i l t e1 e2
    rw [e1, e2] at hw
    rw [upd_ne (fun z => hn (.inl (by rw [← z]; exact e2)))]
    exact hw
  · rename_i h1 h2
    split at hw
    · rename_i e1 e2; exact h1 e1 e2
    · rename_i e1 e2; exact h2 _ _ e1 e2
    · exact hw
theorem WR.upd {w : W} {a : Addr} {o : HO} (hn : ¬ ws.has a) (hx : BxO (H a)) (h : WR K ws w H) : WR K ws w (upd H a o) := ⟨h.1.upd hn, h.2.upd hn hx.nx, h.3.upd hn hx⟩
theorem OO.nx {B : Addr → Prop} {a : Addr} (h : OO K ws B H a d) : BxO (H a) := by
  cases d <;> first
    | exact h.elim
    | (obtain ⟨vs, q, _⟩ := h; rw [q]; trivial)
theorem Env.grow (g : Grow H H') (e : Env K ws B0 sl w σ H) : Env K ws B0 sl w σ H' where
  len := e.len
  wr := e.wr.grow g
  bx := e.bx.keep e.dom (fun _ z => .inl z) fun a o _ z => g a o z
  dom := fun a h z => e.dom a h (g.ex a z)
  va := fun i d h => let ⟨v, h1, h2⟩ := e.va i d h; ⟨v, h1, h2.grow g⟩
  ow := fun i d h => let ⟨a, h1, h2, h3⟩ := e.ow i d h; ⟨a, h1, h2.grow g, h3⟩
  uq := e.uq
theorem OO.there {B : Addr → Prop} {a : Addr} (h : OO K ws B H a d) : H a ≠ none := by
  cases d <;> first
    | exact h.elim
    | (obtain ⟨vs, e, _⟩ := h; rw [e]; intro z; cases z)
theorem Env.bad (e : Env K ws B0 sl w σ H) : ∀ a, Bad ws B0 sl σ a → H a ≠ none := fun a h => by
  rcases h with h | h | ⟨i, d, h1, h2⟩
  · exact e.wd a h
  · exact e.dom a h
  · obtain ⟨b, q1, q2, _⟩ := e.ow i d h1
    rw [h2] at q1
    cases q1
    exact q2.there
theorem Env.fresh (e : Env K ws B0 sl w σ H) {p : Addr} (h : H p = none) : ¬ Bad ws B0 sl σ p := fun b => e.bad p b h

theorem DR.dw {B : Addr → Prop} (h : DR K ws B H v d) (ht : d ≠ .town) (hf : ∀ k T l, d ≠ .fn k T l) (ho : ∀ k, d ≠ .obj k) (hx : ∀ c, d ≠ .exc c) (hk : ∀ l, d ≠ .kt l) : DW K ws B H v d := by
  cases h with
  | non => rfl
  | bl b => rfl
  | int i => rfl
  | str x => rfl
  | tup z h r => exact ⟨z, _, _, rfl, h, r⟩
  | lst z n h r => exact ⟨z, _, _, rfl, h, r⟩
  | scr ns h => exact ⟨_, rfl, h.sq⟩
  | dk n h e r => exact ⟨_, _, rfl, h, e, r⟩
  | dt n h e r => exact ⟨_, _, rfl, h, e, r⟩
  | town h => exact absurd rfl ht
  | obj h => exact absurd rfl (ho _)
  | fn _ _ _ _ _ _ => exact absurd rfl (hf _ _ _)
  | exc _ _ => exact absurd rfl (hx _)
  | kt _ _ _ _ _ => exact absurd rfl (hk _)
theorem get_set {α : Type} {l : List α} {i j : Nat} {x y : α} (h : (l.set i x)[j]? = some y) : (j = i ∧ y = x ∧ i < l.length) ∨ (j ≠ i ∧ l[j]? = some y) := by
  by_cases e : j = i
  · subst e
    by_cases q : j < l.length
    · rw [List.getElem?_set_self q] at h
      exact .inl ⟨rfl, (Option.some.inj h).symm, q⟩
    · rw [List.getElem?_eq_none (by simpa using q)] at h
      cases h
  · rw [List.getElem?_set_ne (Ne.symm e)] at h
    exact .inr ⟨e, h⟩

end
end Pm
namespace Pm
open PySem L2


def M.pure {α : Type} (a : α) : M α := fun w => .ok a w
def M.bind {α β : Type} (m : M α) (k : α → M β) : M β := fun w => match m w with
  | .ok a w' => k a w'
  | .ex c w' => .ex c w'
  | .bad => .bad
def M.bad {α : Type} : M α := fun _ => .bad
def M.raise {α : Type} (c : Str) : M α := fun w => .ex c w
def M.opt {α : Type} (o : Option α) : M α := match o with
  | some a => M.pure a
  | none => M.bad
section
variable {α β γ : Type}
@[simp] theorem pure_bind (a : α) (k : α → M β) : M.bind (M.pure a) k = k a := rfl
@[simp] theorem bad_bind (k : α → M β) : M.bind (M.bad : M α) k = M.bad := rfl
@[simp] theorem raise_bind (c : Str) (k : α → M β) : M.bind (M.raise c : M α) k = M.raise c := rfl
@[simp] theorem opt_some (a : α) : M.opt (some a) = M.pure a := rfl
@[simp] theorem opt_none : M.opt (none : Option α) = M.bad := rfl
@[simp] theorem bind_assoc (m : M α) (k : α → M β) (g : β → M γ) : M.bind (M.bind m k) g = M.bind m fun a => M.bind (k a) g := by
  funext w
  show (match (match m w with | .ok a w' => k a w' | .ex c w' => .ex c w' | .bad => .bad) with | .ok a w' => g a w' | .ex c w' => .ex c w' | .bad => .bad) = match m w with | .ok a w' => M.bind (k a) g w' | .ex c w' => .ex c w' | .bad => .bad
  cases m w <;> rfl
@[simp] theorem bind_pure (m : M α) : M.bind m M.pure = m := by
  funext w
  show (match m w with | .ok a w' => .ok a w' | .ex c w' => .ex c w' | .bad => .bad) = m w
  cases m w <;> rfl
end
abbrev Ls := List Sl
abbrev Dn := Ls → M D
abbrev Bn := Ls → M Bool
abbrev An := Ls → M (List D)

section
variable (K : PySem.W.Frag) (mg : Str → Option Value) (Wx : WX) (ws : Wa) (B0 : Addr → Prop) (sl : Ls) (σ : L2.St) (H : Hp)
def runAt {α : Type} (r : Rs α) (k : Wa → W → α → Hp → Prop) : Prop := match r with
  | .ok a w' => ∀ ws' H', Le ws (Own sl σ) H ws' (Own sl σ) H' → Env K ws' B0 sl w' σ H' → k ws' w' a H'
  | .ex c w' => ∀ ws' H' C, mg c = some (.ref C) → Le ws (Own sl σ) H ws' (Own sl σ) H' → Env K ws' B0 sl w' σ H' → Wx (.ref C) none σ H'
  | .bad => False
def RV (v : V) (d : D) : Prop := (∃ i : Nat, sl[i]? = some (.ow d) ∧ σ[i]? = some (some v)) ∨ DR K ws (Bad ws B0 sl σ) H v d
def RVs : List V → List D → Prop := Paired (RV K ws B0 sl σ H)
end
def rdb : D → Bool
  | .town => false
  | .fn _ _ _ => false
  | .obj _ => false
  | .exc _ => false
  | .kt _ => false
  | _ => true
section
variable {K : PySem.W.Frag} {mg : Str → Option Value} {Wx : WX} {ws ws' : Wa} {B0 : Addr → Prop} {sl : Ls} {w w' : W} {σ : L2.St} {H H' : Hp} {α β : Type} {r : Rs α} {k k' : Wa → W → α → Hp → Prop} {v : V} {d : D}
theorem RV.le (l : Le ws (Own sl σ) H ws' (Own sl σ) H') (h : RV K ws B0 sl σ H v d) : RV K ws' B0 sl σ H' v d := by
  rcases h with h | h
  · exact .inl h
  · exact .inr (h.le l)
theorem RVs.le (l : Le ws (Own sl σ) H ws' (Own sl σ) H') : ∀ {vs : List V} {ds : List D}, RVs K ws B0 sl σ H vs ds → RVs K ws' B0 sl σ H' vs ds
  | _, _, .nil => .nil
  | _, _, .cons h r => .cons (RV.le l h) (RVs.le l r)
theorem RV.of (h : DR K ws (Bad ws B0 sl σ) H v d) : RV K ws B0 sl σ H v d := .inr h
theorem RVs.of : ∀ {vs : List V} {ds : List D}, DRs K ws (Bad ws B0 sl σ) H vs ds → RVs K ws B0 sl σ H vs ds
  | _, _, .nil => .nil
  | _, _, .cons h r => .cons (.inr h) (RVs.of r)
theorem Env.rv (e : Env K ws B0 sl w σ H) (h : RV K ws B0 sl σ H v d) (hd : rdb d = true) : DW K ws (Bad ws B0 sl σ) H v d := by
  rcases h with ⟨i, h1, h2⟩ | h
  · obtain ⟨a, q1, q2, _⟩ := e.ow i d h1
    rw [h2] at q1
    cases q1
    cases d <;> first
      | exact q2.elim
      | (obtain ⟨vs, p1, p0, p2⟩ := q2; exact ⟨p0, a, vs, rfl, p1, p2⟩)
      | (obtain ⟨vs, p1, p2, p3⟩ := q2; exact ⟨a, vs, rfl, p1, p2, p3⟩)
  · exact h.dw (fun z => by subst z; cases hd) (fun _ _ _ z => by subst z; cases hd) (fun _ z => by subst z; cases hd) (fun _ z => by subst z; cases hd) (fun _ z => by subst z; cases hd)
theorem runAt.mono (h : runAt K mg Wx ws B0 sl σ H r k) (f : ∀ ws' w' a H', Le ws (Own sl σ) H ws' (Own sl σ) H' → Env K ws' B0 sl w' σ H' → k ws' w' a H' → k' ws' w' a H') : runAt K mg Wx ws B0 sl σ H r k' := by
  cases r with
  | ok a s' => exact fun ws' H' l e => f ws' s' a H' l e (h ws' H' l e)
  | ex c s' => exact h
  | bad => exact h
theorem runAt.le {ws1 : Wa} {H1 : Hp} (l : Le ws (Own sl σ) H ws1 (Own sl σ) H1) (h : runAt K mg Wx ws B0 sl σ H r k) : runAt K mg Wx ws1 B0 sl σ H1 r k := by
  cases r with
  | ok a s' => exact fun ws' H' l' e => h ws' H' (l.trans l') e
  | ex c s' => exact fun ws' H' C hc l' e => h ws' H' C hc (l.trans l') e
  | bad => exact h
theorem runAt.bind {m : M α} {g : α → M β} {k : Wa → W → β → Hp → Prop} (h : runAt K mg Wx ws B0 sl σ H (M.bind m g w) k) :
    runAt K mg Wx ws B0 sl σ H (m w) (fun ws' w' a H' => runAt K mg Wx ws' B0 sl σ H' (g a w') k) := by
  unfold M.bind at h
  cases q : m w with
  | ok a s1 => rw [q] at h; exact fun ws1 H1 l1 e1 => runAt.le l1 h
  | ex c s' => rw [q] at h; exact h
  | bad => rw [q] at h; exact h
theorem runAt.here {a : α} (e : Env K ws B0 sl w σ H) (h : runAt K mg Wx ws B0 sl σ H (.ok a w) k) : k ws w a H := h ws H (Le.refl _ _ _) e
theorem runAt.grow {a : α} {H' : Hp} (g : Grow H H') (e : Env K ws B0 sl w σ H) (h : runAt K mg Wx ws B0 sl σ H (.ok a w) k) : k ws w a H' := h ws H' (g.le _ _) (e.grow g)
theorem runAt.opt {o : Option α} (h : runAt K mg Wx ws B0 sl σ H (M.opt o w) k) : ∃ a, o = some a ∧ runAt K mg Wx ws B0 sl σ H (.ok a w) k := by
  cases o with
  | none => exact h.elim
  | some a => exact ⟨a, rfl, h⟩
end

def tE (K : PySem.W.Frag) (mg : Str → Option Value) (Wx : WX) (f : Dn) : TE := fun σ H Q => ∃ ws B0 sl w, Env K ws B0 sl w σ H ∧ runAt K mg Wx ws B0 sl σ H (f sl w) fun ws' _ d H' => ∀ v, DR K ws' (Bad ws' B0 sl σ) H' v d → Q v H'
def tR (K : PySem.W.Frag) (mg : Str → Option Value) (Wx : WX) (f : Dn) : TE := fun σ H Q => ∃ ws B0 sl w, Env K ws B0 sl w σ H ∧ runAt K mg Wx ws B0 sl σ H (f sl w) fun ws' _ d H' => ∀ v, RV K ws' B0 sl σ H' v d → Q v H'
def tT (K : PySem.W.Frag) (mg : Str → Option Value) (Wx : WX) (f : Bn) : TT := fun σ H Q => ∃ ws B0 sl w, Env K ws B0 sl w σ H ∧ runAt K mg Wx ws B0 sl σ H (f sl w) fun _ _ b H' => Q b H'
def tA (K : PySem.W.Frag) (mg : Str → Option Value) (Wx : WX) (f : An) : TA := fun σ H Q => ∃ ws B0 sl w, Env K ws B0 sl w σ H ∧ runAt K mg Wx ws B0 sl σ H (f sl w) fun ws' _ ds H' => ∀ vs, DRs K ws' (Bad ws' B0 sl σ) H' vs ds → Q vs H'
def tAr (K : PySem.W.Frag) (mg : Str → Option Value) (Wx : WX) (f : An) : TA := fun σ H Q => ∃ ws B0 sl w, Env K ws B0 sl w σ H ∧ runAt K mg Wx ws B0 sl σ H (f sl w) fun ws' _ ds H' => ∀ vs, RVs K ws' B0 sl σ H' vs ds → Q vs H'

abbrev PEm (X : Cx) (Wx : WX) (e : Expr) (f : Dn) : Prop := PE X e (tE X.K X.mg Wx f)
abbrev PRm (X : Cx) (Wx : WX) (e : Expr) (f : Dn) : Prop := PE X e (tR X.K X.mg Wx f)
abbrev PTm (X : Cx) (Wx : WX) (e : Expr) (f : Bn) : Prop := PT X e (tT X.K X.mg Wx f)
abbrev PAm (X : Cx) (Wx : WX) (es : List Expr) (f : An) : Prop := PA X es (tA X.K X.mg Wx f)
abbrev PArm (X : Cx) (Wx : WX) (es : List Expr) (f : An) : Prop := PA X es (tAr X.K X.mg Wx f)

theorem _root_.L2.PE.mimp {X : Cx} {e : Expr} {t t' : TE} (h : PE X e t) (f : ∀ σ H Q, t' σ H Q → t σ H Q) : PE X e t' := ⟨fun pins s σ H Q I q => h.run pins s σ H Q I (f _ _ _ q)⟩
theorem _root_.L2.PT.mimp {X : Cx} {e : Expr} {t t' : TT} (h : PT X e t) (f : ∀ σ H Q, t' σ H Q → t σ H Q) : PT X e t' := ⟨fun pins s σ H Q I q => h.run pins s σ H Q I (f _ _ _ q)⟩
theorem _root_.L2.PA.mimp {X : Cx} {e : List Expr} {t t' : TA} (h : PA X e t) (f : ∀ σ H Q, t' σ H Q → t σ H Q) : PA X e t' := ⟨fun pos pins s σ H Q I q => h.run pos pins s σ H Q I (f _ _ _ q)⟩
theorem _root_.L2.PS.mimp {X : Cx} {e : Stmt} {t t' : TS} (h : PS X e t) (f : ∀ D σ H, t' D σ H → t D σ H) : PS X e t' := ⟨fun pins s σ H D I q => h.run pins s σ H D I (f _ _ _ q)⟩
theorem _root_.L2.PSs.mimp {X : Cx} {e : List Stmt} {t t' : TS} (h : PSs X e t) (f : ∀ D σ H, t' D σ H → t D σ H) : PSs X e t' := ⟨fun pins s σ H D I q => h.run pins s σ H D I (f _ _ _ q)⟩


def nVar (i : Nat) : Dn := fun sl => match sl[i]? with
  | some (.va d) => M.pure d
  | _ => M.bad
def nRd (i : Nat) : Dn := fun sl => match sl[i]? with
  | some (.va d) => M.pure d
  | some (.ow d) => M.pure d
  | _ => M.bad
section
variable {X : Cx} {Wx : WX} {e : Expr} {f : Dn}
theorem r_of (h : PEm X Wx e f) : PRm X Wx e f := h.mimp fun σ H Q ⟨ws, B0, sl, w, e, h⟩ => ⟨ws, B0, sl, w, e, h.mono fun ws1 w1 d H1 l1 e1 h1 v hv => h1 v (.inr hv)⟩
theorem m_var (i : Nat) {x : Str} {pos : Pos} (hN : X.N[i]? = some x := by rfl) (hv : Vis X.env.scope x := by first | exact Or.inl rfl | exact Or.inr (Or.inl rfl) | exact Or.inr (Or.inr rfl)) (hd : (x == ("__debug__" : Str)) = false := by decide)
    (hcd : (x == ("__classdict__" : Str)) = false := by decide) : PEm X Wx (.Name x pos) (nVar i) := by
  refine (pe_var hN hv hd hcd).mimp fun σ H Q ⟨ws, B0, sl, w, e, h⟩ => ?_
  unfold nVar at h
  cases q : sl[i]? with
  | none => rw [q] at h; exact h.elim
  | some z =>
    rw [q] at h
    cases z with
    | no => exact h.elim
    | ow d => exact h.elim
    | va d =>
      obtain ⟨v, h1, h2⟩ := e.va i d q
      exact ⟨v, h1, runAt.here e h v h2⟩
theorem r_var (i : Nat) {x : Str} {pos : Pos} (hN : X.N[i]? = some x := by rfl) (hv : Vis X.env.scope x := by first | exact Or.inl rfl | exact Or.inr (Or.inl rfl) | exact Or.inr (Or.inr rfl)) (hd : (x == ("__debug__" : Str)) = false := by decide)
    (hcd : (x == ("__classdict__" : Str)) = false := by decide) : PRm X Wx (.Name x pos) (nRd i) := by
  refine (pe_var hN hv hd hcd).mimp fun σ H Q ⟨ws, B0, sl, w, e, h⟩ => ?_
  unfold nRd at h
  cases q : sl[i]? with
  | none => rw [q] at h; exact h.elim
  | some z =>
    rw [q] at h
    cases z with
    | no => exact h.elim
    | va d =>
      obtain ⟨v, h1, h2⟩ := e.va i d q
      exact ⟨v, h1, runAt.here e h v (.inr h2)⟩
    | ow d =>
      obtain ⟨a, h1, h2, _⟩ := e.ow i d q
      exact ⟨_, h1, runAt.here e h _ (.inl ⟨i, q, h1⟩)⟩
theorem m_c {e : Expr} {v : V} {d : D} (h : PE X e (tC v)) (hd : ∀ ws B H, DR X.K ws B H v d) : PEm X Wx e (fun _ => M.pure d) :=
  h.mimp fun σ H Q ⟨ws, B0, sl, w, e, h⟩ => runAt.here e h v (hd _ _ _)
theorem m_int {i j pos} : PEm X Wx (.Constant (.int i) j pos) (fun _ => M.pure (.int i)) := m_c pe_int fun _ _ _ => .int i
theorem m_bl {b j pos} : PEm X Wx (.Constant (.bool b) j pos) (fun _ => M.pure (.bl b)) := m_c pe_bl fun _ _ _ => .bl b

def OpS (K : PySem.W.Frag) (r : R2) (op : D → D → Option D) : Prop := ∀ (ws : Wa) (B : Addr → Prop) (H : Hp) (x y : V) (dx dy d : D) (Q : VK), (∀ a, B a → H a ≠ none) → DW K ws B H x dx → DW K ws B H y dy → op dx dy = some d →
  (∀ v H', Grow H H' → DR K ws B H' v d → Q v H') → r x y H Q
def OpT (op : D → D → Option D) : Prop := ∀ x y d, op x y = some d → rdb x = true ∧ rdb y = true
def fBin (op : D → D → Option D) (x y : M D) : M D := x.bind fun a => y.bind fun b => M.opt (op a b)
theorem fBin_go {K : PySem.W.Frag} {mg : Str → Option Value} {r : R2} {op : D → D → Option D} {f g : Dn} (hs : OpS K r op) (ht : OpT op) (σ : L2.St) (H : Hp) (Q : VK) (h : tE K mg Wx (fun sl => fBin op (f sl) (g sl)) σ H Q) : tOp r (tR K mg Wx f) (tR K mg Wx g) σ H Q := by
  obtain ⟨ws, B0, sl, w, e, h⟩ := h
  refine ⟨ws, B0, sl, w, e, (runAt.bind h).mono fun ws1 w1 x H1 l1 e1 h1 v hv => ?_⟩
  refine ⟨ws1, B0, sl, w1, e1, (runAt.bind h1).mono fun ws2 w2 y H2 l2 e2 h2 u hu => ?_⟩
  obtain ⟨d, q3, h2⟩ := runAt.opt h2
  obtain ⟨t1, t2⟩ := ht _ _ _ q3
  exact hs ws2 _ H2 v u x y d Q e2.bad (e2.rv (RV.le l2 hv) t1) (e2.rv hu t2) q3 fun v' H' g hd => runAt.grow g e2 h2 v' hd
theorem m_bin {a b : Expr} {op : Operator} {r : R2} {o : D → D → Option D} {f g : Dn} {pos : Pos} (ho : OpR X (binaryOp op) r) (hs : OpS X.K r o) (ht : OpT o) (ha : PRm X Wx a f) (hb : PRm X Wx b g) : PEm X Wx (.BinOp a op b pos) (fun sl => fBin o (f sl) (g sl)) :=
  (pe_op ho ha hb).mimp fun σ H Q h => fBin_go hs ht σ H Q h
theorem m_cmp {a b : Expr} {op : CmpOp} {r : R2} {o : D → D → Option D} {f g : Dn} {pos : Pos} (ho : OpR X (compareOp op) r) (hs : OpS X.K r o) (ht : OpT o) (ha : PRm X Wx a f) (hb : PRm X Wx b g) (hm : behindInMarks op b = false := by first | exact nomark _ | rfl) : PEm X Wx (.Compare a [op] [b] pos) (fun sl => fBin o (f sl) (g sl)) :=
  (pe_cmpR ho ha hb hm).mimp fun σ H Q h => fBin_go hs ht σ H Q h
end
end Pm
namespace Pm
open PySem PySem.Spec PyProof.Rows L2


mutual
def toPy : D → PyData
  | .non => .none
  | .bl b => .bool b
  | .int i => .int i
  | .str x => .str x
  | .tup l => .tuple (toPys l)
  | .lst l => .list (toPys l)
  | .scr l => .list (l.map PyData.int)
  | .dk _ => .none
  | .dt _ => .none
  | .town => .none
  | .fn _ _ _ => .none
  | .obj _ => .none
  | .exc _ => .none
  | .kt _ => .none
def toPys : List D → List PyData
  | [] => []
  | d :: r => toPy d :: toPys r
end
mutual
def deq : D → D → Bool
  | .non, .non => true
  | .bl a, .bl b => a == b
  | .bl a, .int j => (if a then 1 else 0) == j
  | .int i, .bl b => i == (if b then 1 else 0)
  | .int i, .int j => i == j
  | .str x, .str y => x == y
  | .tup xs, .tup ys => deqs xs ys
  | .lst xs, .lst ys => deqs xs ys
  | _, _ => false
def deqs : List D → List D → Bool
  | [], [] => true
  | x :: xs, y :: ys => deq x y && deqs xs ys
  | _, _ => false
end
def okd : Nat → D → Bool
  | _, .non => true
  | _, .bl _ => true
  | _, .int _ => true
  | _, .str x => PyData.strOk x
  | n + 1, .tup l => l.all (okd n)
  | n + 1, .lst l => l.all (okd n)
  | _, _ => false
theorem toPys_map : ∀ l : List D, toPys l = l.map toPy
  | [] => rfl
  | d :: r => by rw [toPys, toPys_map r]; rfl
theorem deqs_of {n : Nat} (ih : ∀ x y, okd n x = true → okd n y = true → PyData.eqv (toPy x) (toPy y) = deq x y) : ∀ (xs ys : List D), xs.all (okd n) = true → ys.all (okd n) = true → PyData.eqvAll (toPys xs) (toPys ys) = deqs xs ys
  | [], [], _, _ => rfl
  | [], _ :: _, _, _ => rfl
  | _ :: _, [], _, _ => rfl
  | x :: xs, y :: ys, h1, h2 => by
    simp only [List.all_cons, Bool.and_eq_true] at h1 h2
    show (PyData.eqv (toPy x) (toPy y) && PyData.eqvAll (toPys xs) (toPys ys)) = (deq x y && deqs xs ys)
    rw [ih x y h1.1 h2.1, deqs_of ih xs ys h1.2 h2.2]
theorem deq_of : ∀ (n : Nat) (x y : D), okd n x = true → okd n y = true → PyData.eqv (toPy x) (toPy y) = deq x y := by
  intro n
  induction n with
  | zero =>
    intro x y h1 h2
    cases x <;> cases y <;> first
      | rfl
      | (simp [okd] at h1; done)
      | (simp [okd] at h2; done)
      | (simp only [toPy, deq]; rfl)
      | (simp [toPy, deq, PyData.eqv]; done)
  | succ n ih =>
    intro x y h1 h2
    cases x <;> cases y <;> first
      | rfl
      | (simp [okd] at h1; done)
      | (simp [okd] at h2; done)
      | exact deqs_of ih _ _ h1 h2
      | (simp only [toPy, deq]; rfl)
      | (simp [toPy, deq, PyData.eqv]; done)
theorem canLay_all {n : Nat} (ih : ∀ x, okd n x = true → PyData.canLay0 (toPy x) = true) : ∀ l : List D, l.all (okd n) = true → PyData.canLayAll0 (toPys l) = true
  | [], _ => rfl
  | x :: r, h => by
    simp only [List.all_cons, Bool.and_eq_true] at h
    show (PyData.canLay0 (toPy x) && PyData.canLayAll0 (toPys r)) = true
    rw [ih x h.1, canLay_all ih r h.2]; rfl
theorem canLay_of : ∀ (n : Nat) (x : D), okd n x = true → PyData.canLay0 (toPy x) = true := by
  intro n
  induction n with
  | zero => intro x h; cases x <;> first | rfl | exact h | (simp [okd] at h; done)
  | succ n ih => intro x h; cases x <;> first | rfl | exact canLay_all ih _ h | exact h | (simp [okd] at h; done)
theorem depth_all {n : Nat} (ih : ∀ x, okd n x = true → PyData.depth (toPy x) ≤ n) : ∀ l : List D, l.all (okd n) = true → PyData.depthAll (toPys l) ≤ n
  | [], _ => Nat.zero_le _
  | x :: r, h => by
    simp only [List.all_cons, Bool.and_eq_true] at h
    have h1 := ih x h.1
    have h2 := depth_all ih r h.2
    show max (PyData.depth (toPy x)) (PyData.depthAll (toPys r)) ≤ n
    omega
theorem depth_of : ∀ (n : Nat) (x : D), okd n x = true → PyData.depth (toPy x) ≤ n := by
  intro n
  induction n with
  | zero => intro x h; cases x <;> first | exact Nat.le_refl _ | (simp [okd] at h; done)
  | succ n ih =>
    intro x h
    cases x <;> first
      | exact Nat.zero_le _
      | (simp [okd] at h; done)
      | (have q := depth_all ih _ h
         show PyData.depthAll (toPys _) + 1 ≤ n + 1
         omega)
theorem shaped_of {x : D} {n : Nat} (h : okd n x = true) (hn : n ≤ 64) : SeqAt.shaped (toPy x) = true := by
  unfold SeqAt.shaped
  rw [canLay_of n x h, decide_eq_true (Nat.le_trans (depth_of n x h) hn)]; rfl
section
variable {K : PySem.W.Frag} {ws : Wa} {B : Addr → Prop} {H : Hp} {n : Nat}
theorem dp_all (ih : ∀ v d, okd n d = true → DR K ws B H v d → Dp K H v (toPy d)) : ∀ {vs : List V} {ds : List D}, DRs K ws B H vs ds → ds.all (okd n) = true → DpAll K H vs (toPys ds)
  | _, _, .nil, _ => .nil
  | _, _, .cons h r, q => by
    simp only [List.all_cons, Bool.and_eq_true] at q
    exact .cons (ih _ _ q.1 h) (dp_all ih r q.2)
theorem dp_of : ∀ (n : Nat) (v : V) (d : D), okd n d = true → DR K ws B H v d → Dp K H v (toPy d) := by
  intro n
  induction n with
  | zero => intro v d h r; cases r <;> first | exact .non | exact .bl _ | exact .int _ | exact .str _ | (simp [okd] at h; done)
  | succ n ih =>
    intro v d h r
    cases r with
    | non => exact .non
    | bl b => exact .bl b
    | int i => exact .int i
    | str x => exact .str x
    | tup _ t r => exact .tup t.sq (dp_all ih r h)
    | lst _ _ t r => exact .lst (.inl (.inl t)) (dp_all ih r h)
    | scr => simp [okd] at h
    | dk => simp [okd] at h
    | dt => simp [okd] at h
    | town => simp [okd] at h
    | obj => simp [okd] at h
    | fn => simp [okd] at h
    | exc => simp [okd] at h
    | kt => simp [okd] at h
theorem dw_dp {v : V} {d : D} (h : okd n d = true) (r : DW K ws B H v d) : Dp K H v (toPy d) := by
  cases d with
  | non => cases r; exact .non
  | bl b => cases r; exact .bl b
  | int i => cases r; exact .int i
  | str x => cases r; exact .str x
  | tup l =>
    obtain ⟨_, a, vs, rfl, q, r⟩ := r
    cases n with
    | zero => simp [okd] at h
    | succ n => exact .tup q.sq (dp_all (dp_of n) r h)
  | lst l =>
    obtain ⟨_, a, vs, rfl, q, r⟩ := r
    cases n with
    | zero => simp [okd] at h
    | succ n => exact .lst (.inl (.inl q)) (dp_all (dp_of n) r h)
  | _ => exact absurd h (by cases n <;> simp [okd])
end


instance (i j : Int) : Decidable (CMul i j) := by unfold CMul; infer_instance
instance (i j : Int) : Decidable (CDiv i j) := by unfold CDiv; infer_instance
def addD : D → D → Option D
  | .int i, .int j => some (.int (i + j))
  | .str x, .str y => if x.length + y.length ≤ sizeLine then some (.str (x ++ y)) else none
  | .tup l, .tup m => if l.length + m.length ≤ sizeLine then some (.tup (l ++ m)) else none
  | .lst l, .lst m => if l.length + m.length ≤ sizeLine then some (.lst (l ++ m)) else none
  | _, _ => none
def subD : D → D → Option D
  | .int i, .int j => some (.int (i - j))
  | _, _ => none
def mulD : D → D → Option D
  | .int i, .int j => if CMul i j then some (.int (i * j)) else none
  | .lst l, .int k => if -(2 ^ 63) ≤ k ∧ k < 2 ^ 63 ∧ l.length * k.toNat ≤ sizeLine then some (.lst (List.replicate k.toNat l).flatten) else none
  | .tup l, .int k => if l ≠ [] ∧ 1 ≤ k ∧ k ≤ 10000 ∧ l.length ≤ 1000 then some (.tup (List.replicate k.toNat l).flatten) else if l ≠ [] ∧ k = 0 then some (.tup []) else none
  | _, _ => none
def fdivD : D → D → Option D
  | .int i, .int j => if CDiv i j then some (.int (i / j)) else none
  | _, _ => none
def modD : D → D → Option D
  | .int i, .int j => if 0 < j then some (.int (i % j)) else none
  | _, _ => none
def ltD : D → D → Option D
  | .int i, .int j => some (.bl (decide (i < j)))
  | _, _ => none
def leD : D → D → Option D
  | .int i, .int j => some (.bl (decide (i ≤ j)))
  | .str x, .str y => some (.bl (!decide (y.cps.toList < x.cps.toList)))
  | _, _ => none
def gtD : D → D → Option D
  | .int i, .int j => some (.bl (decide (j < i)))
  | _, _ => none
def geD : D → D → Option D
  | .int i, .int j => some (.bl (decide (j ≤ i)))
  | _, _ => none
def scaD : D → D → Bool
  | .non, .non => true
  | .int _, .int _ => true
  | .bl _, .bl _ => true
  | .str _, .str _ => true
  | _, _ => false
def eqD (x y : D) : Option D := if scaD x y = true ∨ (okd 40 x = true ∧ okd 40 y = true) then some (.bl (deq x y)) else none
def neD (x y : D) : Option D := if scaD x y = true ∨ (okd 40 x = true ∧ okd 40 y = true) then some (.bl (!deq x y)) else none

section
variable {K : PySem.W.Frag}
def rAddM (K : PySem.W.Frag) : R2 := fun x y H Q => (rI0 (fun i j => .int (i + j)) x y H Q ∨ (∃ i j, x = .str i ∧ y = .str j ∧ i.length + j.length ≤ sizeLine ∧ Q (.str (i ++ j)) H)) ∨ (rCatA K x y H Q ∨ rCat x y H Q)
theorem op_addM {X : Cx} : OpR X (binaryOp .Add) (rAddM X.K) := ((op_add).or op_add_str).or (op_catA.or op_cat)
theorem Dw.len {ws : Wa} {B : Addr → Prop} {H : Hp} {vs : List V} {ds : List D} (r : DRs K ws B H vs ds) : vs.length = ds.length := r.length
theorem tp_new {ws : Wa} {B : Addr → Prop} {H : Hp} {p : Addr} {vs : List V} {ds : List D} (hb : ∀ a, B a → H a ≠ none) (hp : H p = none) (hz : ds.length ≤ sizeLine) (r : DRs K ws B H vs ds) : DR K ws B (upd H p (.tup vs)) (.ref p) (.tup ds) :=
  .tup hz (.inl ⟨fun z => hb p z hp, upd_same⟩) (r.grow (Grow.new hp))
theorem ls_new {ws : Wa} {B : Addr → Prop} {H : Hp} {p : Addr} {vs : List V} {ds : List D} (hb : ∀ a, B a → H a ≠ none) (hp : H p = none) (hz : ds.length ≤ sizeLine) (r : DRs K ws B H vs ds) : DR K ws B (upd H p (.lst vs)) (.ref p) (.lst ds) :=
  .lst hz (fun z => hb p z hp) upd_same (r.grow (Grow.new hp))
theorem so_add : OpS K (rAddM K) addD := by
  intro ws B H x y dx dy d Q hb hx hy ho q
  cases dx <;> cases dy <;> first
    | (simp [addD] at ho; done)
    | skip
  · rename_i i j
    cases hx; cases hy
    simp only [addD, Option.some.injEq] at ho
    subst ho
    exact .inl (.inl ⟨i, j, rfl, rfl, q _ _ (Grow.refl H) (.int _)⟩)
  · rename_i i j
    cases hx; cases hy
    simp only [addD] at ho
    split at ho
    · rename_i hz
      cases ho
      exact .inl (.inr ⟨i, j, rfl, rfl, hz, q _ _ (Grow.refl H) (.str _)⟩)
    · cases ho
  · rename_i l m
    obtain ⟨zx, a, xs, rfl, ha, ra⟩ := hx
    obtain ⟨zy, b, ys, rfl, hb', rb⟩ := hy
    simp only [addD] at ho
    split at ho
    · rename_i hz
      cases ho
      have l1 := ra.length
      have l2 := rb.length
      refine .inr (.inl ⟨a, b, xs, ys, rfl, rfl, ha.sq, hb'.sq, by omega, fun e => ?_, fun _ e => ?_, fun _ _ p hp => q _ _ (Grow.new hp) (tp_new hb hp (by simpa using hz) (ra.append rb))⟩)
      · subst e
        cases ra
        exact q _ _ (Grow.refl H) (.tup zy hb' rb)
      · subst e
        cases rb
        rw [List.append_nil] at q
        exact q _ _ (Grow.refl H) (.tup zx ha ra)
    · cases ho
  · rename_i l m
    obtain ⟨zx, a, xs, rfl, ha, ra⟩ := hx
    obtain ⟨zy, b, ys, rfl, hb', rb⟩ := hy
    simp only [addD] at ho
    split at ho
    · rename_i hz
      cases ho
      have l1 := ra.length
      have l2 := rb.length
      exact .inr (.inr ⟨a, b, xs, ys, rfl, rfl, ha, hb', by omega, fun p hp => q _ _ (Grow.new hp) (ls_new hb hp (by simpa using hz) (ra.append rb))⟩)
    · cases ho
theorem so_I0 {g : Int → Int → V} {gd : Int → Int → D} {op : D → D → Option D} (h1 : ∀ x y d, op x y = some d → ∃ i j, x = .int i ∧ y = .int j ∧ d = gd i j) (hg : ∀ ws B H i j, DR K ws B H (g i j) (gd i j)) : OpS K (rI0 g) op := by
  intro ws B H x y dx dy d Q hb hx hy ho q
  obtain ⟨i, j, rfl, rfl, rfl⟩ := h1 _ _ _ ho
  cases hx; cases hy
  exact ⟨i, j, rfl, rfl, q _ _ (Grow.refl H) (hg _ _ _ i j)⟩
theorem so_I {C : Int → Int → Prop} {g : Int → Int → V} {gd : Int → Int → D} {op : D → D → Option D} (h1 : ∀ x y d, op x y = some d → ∃ i j, x = .int i ∧ y = .int j ∧ C i j ∧ d = gd i j) (hg : ∀ ws B H i j, DR K ws B H (g i j) (gd i j)) : OpS K (rI C g) op := by
  intro ws B H x y dx dy d Q hb hx hy ho q
  obtain ⟨i, j, rfl, rfl, hc, rfl⟩ := h1 _ _ _ ho
  cases hx; cases hy
  exact ⟨i, j, rfl, rfl, hc, q _ _ (Grow.refl H) (hg _ _ _ i j)⟩
theorem so_sub : OpS K (rI0 fun i j => .int (i - j)) subD := so_I0 (gd := fun i j => .int (i - j)) (fun x y d h => by
  cases x <;> cases y <;> first | (simp [subD] at h; done) | (simp only [subD, Option.some.injEq] at h; exact ⟨_, _, rfl, rfl, h.symm⟩)) fun _ _ _ _ _ => .int _
theorem so_fdiv : OpS K (rI CDiv fun i j => .int (i / j)) fdivD := so_I (gd := fun i j => .int (i / j)) (fun x y d h => by
  cases x <;> cases y <;> first | (simp [fdivD] at h; done) | (simp only [fdivD] at h; split at h <;> first | (cases h; exact ⟨_, _, rfl, rfl, by assumption, rfl⟩) | cases h)) fun _ _ _ _ _ => .int _
theorem so_mod : OpS K (rI (fun _ j => 0 < j) fun i j => .int (i % j)) modD := so_I (gd := fun i j => .int (i % j)) (fun x y d h => by
  cases x <;> cases y <;> first | (simp [modD] at h; done) | (simp only [modD] at h; split at h <;> first | (cases h; exact ⟨_, _, rfl, rfl, by assumption, rfl⟩) | cases h)) fun _ _ _ _ _ => .int _
theorem so_lt : OpS K (rI0 fun i j => .bl (decide (i < j))) ltD := so_I0 (gd := fun i j => .bl (decide (i < j))) (fun x y d h => by
  cases x <;> cases y <;> first | (simp [ltD] at h; done) | (simp only [ltD, Option.some.injEq] at h; exact ⟨_, _, rfl, rfl, h.symm⟩)) fun _ _ _ _ _ => .bl _
theorem so_gt : OpS K (rI0 fun i j => .bl (decide (j < i))) gtD := so_I0 (gd := fun i j => .bl (decide (j < i))) (fun x y d h => by
  cases x <;> cases y <;> first | (simp [gtD] at h; done) | (simp only [gtD, Option.some.injEq] at h; exact ⟨_, _, rfl, rfl, h.symm⟩)) fun _ _ _ _ _ => .bl _
theorem so_ge : OpS K (rI0 fun i j => .bl (decide (j ≤ i))) geD := so_I0 (gd := fun i j => .bl (decide (j ≤ i))) (fun x y d h => by
  cases x <;> cases y <;> first | (simp [geD] at h; done) | (simp only [geD, Option.some.injEq] at h; exact ⟨_, _, rfl, rfl, h.symm⟩)) fun _ _ _ _ _ => .bl _
def rLeM : R2 := fun x y H Q => rI0 (fun i j => .bl (decide (i ≤ j))) x y H Q ∨ (∃ i j, x = .str i ∧ y = .str j ∧ Q (.bl (!decide (j.cps.toList < i.cps.toList))) H)
theorem op_leM {X : Cx} : OpR X (compareOp .LtE) rLeM := op_le.or op_le_str
theorem so_le : OpS K rLeM leD := by
  intro ws B H x y dx dy d Q hb hx hy ho q
  cases dx <;> cases dy <;> first
    | (simp [leD] at ho; done)
    | (cases hx; cases hy
       simp only [leD, Option.some.injEq] at ho
       subst ho
       first
         | exact .inl ⟨_, _, rfl, rfl, q _ _ (Grow.refl H) (.bl _)⟩
         | exact .inr ⟨_, _, rfl, rfl, q _ _ (Grow.refl H) (.bl _)⟩)


theorem tuple_mul1 (l : Addr) (items : Array Value) (n : Nat) (dd : Option Addr) (sl : Array (Option Value)) (u : Tok) :
    Meets (Builtin.«tuple.__mul__» ⟨[.ref l, .int 1 u], []⟩) (fun _ R s => s.heap.get? l = some { cls := .type "tuple", dict := dd, data := .seq items n, slots := sl } ∧ R (.ok (.ret (Value.ref l))) s) :=
  .of_wp fun prog w A R s h => by
    obtain ⟨hp, g, d, tk, os⟩ := s
    obtain ⟨hl, h⟩ := h
    have f1 := AutoSeq1.idx_int
    have c0 : (decide ((1 : Int) < -(2 ^ 63)) || decide ((1 : Int) ≥ 2 ^ 63)) = false := by decide
    have c1 : (items.isEmpty || (1 : Int) == 1) = true := by simp
    wp_walk using wpAny_loadPart' hl
    repeat (first
      | (refine wpAny_ite_false (decide_eq_false (by rw [c0]; exact Bool.false_ne_true)) ?_; wp_walk using wpAny_loadPart' hl)
      | (refine wpAny_ite_true (decide_eq_true c1) ?_; wp_walk using wpAny_loadPart' hl))
    exact ⟨_, rfl, h⟩
def rRep1 (K : PySem.W.Frag) : R2 := fun x y H Q => ∃ l xs, x = .ref l ∧ y = .int 1 ∧ SqT K H l xs ∧ Q (.ref l) H
theorem op_rep1 {X : Cx} : OpR X (binaryOp .Mult) (rRep1 X.K) := by
  intro pins s σ H x y v u Q I rx ry h
  obtain ⟨l, xs, rfl, rfl, hT, q⟩ := h
  cases rx
  obtain ⟨t, rfl⟩ := ry
  obtain ⟨its, r, ⟨⟨cls, dd, data, sl⟩, ho, hc, n, hd⟩, hs⟩ := I.tuple hT
  simp only at hc hd
  subst hc hd
  refine wpAny_binaryOp_repeat_ref (T := "tuple") (U := "int") (by decide) ⟨_, ho, rfl⟩ (fun s' => typeIs_int s' 1 t) noFill_tuple_mul F.fills_int_mul F.slot_int_rmul repeat_tuple F.slot_int_index.lookup
    (call_meets F.slot_int_rmul (typeIs_int s 1 t) F.entry_int_rmul (F.args_int_rmul_2 _ _) (int_rmul_tuple 1 t l its.toArray n dd sl)
      ⟨ho, rfl, ⟨_, ho, rfl⟩, call_meets F.slot_tuple_mul ⟨_, ho, rfl⟩ F.entry_tuple_mul (F.args_tuple_mul_2 _ _) (tuple_mul1 l its.toArray n dd sl t) ⟨ho, ?_⟩⟩)
  exact ⟨.ref l, H, I, rfl, q⟩
theorem tuple_mul0 (l : Addr) (items : Array Value) (n : Nat) (dd : Option Addr) (sl : Array (Option Value)) (u : Tok) (hi : items.isEmpty = false) :
    Meets (Builtin.«tuple.__mul__» ⟨[.ref l, .int 0 u], []⟩) (fun _ R s => s.heap.get? l = some { cls := .type "tuple", dict := dd, data := .seq items n, slots := sl } ∧
      R (.ok (.ret (Value.ref s.heap.objs.size))) { s with heap := s.heap.push { cls := Value.type "tuple", data := Data.seq #[] }, toks := s.toks }) :=
  .of_wp fun prog w A R s h => by
    obtain ⟨hp, g, d, tk, os⟩ := s
    obtain ⟨hl, h⟩ := h
    have f1 := AutoSeq1.idx_int
    have c0 : (decide ((0 : Int) < -(2 ^ 63)) || decide ((0 : Int) ≥ 2 ^ 63)) = false := by decide
    have c1 : (items.isEmpty || (0 : Int) == 1) = false := by rw [hi]; rfl
    have c2 : (decide ((0 : Int) ≤ 0) || items.isEmpty) = true := by rw [hi]; rfl
    wp_walk using wpAny_loadPart' hl
    repeat (first
      | (refine wpAny_ite_false (decide_eq_false (by rw [c0]; exact Bool.false_ne_true)) ?_; wp_walk using wpAny_loadPart' hl)
      | (refine wpAny_ite_false (decide_eq_false (by rw [c1]; exact Bool.false_ne_true)) ?_; wp_walk using wpAny_loadPart' hl)
      | (refine wpAny_ite_true (decide_eq_true c2) ?_; wp_walk using wpAny_loadPart' hl)
      | (refine wpAny_ite_false (decide_eq_false (Nat.not_lt.mpr (by decide))) ?_; wp_walk using wpAny_loadPart' hl))
    exact ⟨_, rfl, h⟩
def rRep0 (K : PySem.W.Frag) : R2 := fun x y H Q => ∃ l xs, x = .ref l ∧ y = .int 0 ∧ SqT K H l xs ∧ xs ≠ [] ∧ ∀ p, H p = none → Q (.ref p) (upd H p (.tup []))
theorem op_rep0 {X : Cx} : OpR X (binaryOp .Mult) (rRep0 X.K) := by
  intro pins s σ H x y v u Q I rx ry h
  obtain ⟨l, xs, rfl, rfl, hT, ne, q⟩ := h
  cases rx
  obtain ⟨t, rfl⟩ := ry
  obtain ⟨its, r, ⟨⟨cls, dd, data, sl⟩, ho, hc, n, hd⟩, hs⟩ := I.tuple hT
  simp only at hc hd
  subst hc hd
  have hi : its.toArray.isEmpty = false := by
    cases its with
    | nil => exact absurd (List.eq_nil_of_length_eq_zero r.length) ne
    | cons _ _ => rfl
  refine wpAny_binaryOp_repeat_ref (T := "tuple") (U := "int") (by decide) ⟨_, ho, rfl⟩ (fun s' => typeIs_int s' 0 t) noFill_tuple_mul F.fills_int_mul F.slot_int_rmul repeat_tuple F.slot_int_index.lookup
    (call_meets F.slot_int_rmul (typeIs_int s 0 t) F.entry_int_rmul (F.args_int_rmul_2 _ _) (int_rmul_tuple 0 t l its.toArray n dd sl)
      ⟨ho, rfl, ⟨_, ho, rfl⟩, call_meets F.slot_tuple_mul ⟨_, ho, rfl⟩ F.entry_tuple_mul (F.args_tuple_mul_2 _ _) (tuple_mul0 l its.toArray n dd sl t hi) ⟨ho, ?_⟩⟩)
  refine ⟨.ref s.heap.objs.size, _, I.laid (t' := s.toks) (o := .tup []) (fun b ob q => Heap.get?_push_of_some _ q) (Nat.le_refl _) ?_, rfl, q _ (I.hok.fresh (Nat.le_refl _))⟩
  exact ⟨Nat.zero_le _, [], .nil, IsTup.new _ _⟩
def rRepU (K : PySem.W.Frag) : R2 := fun x y H Q => ∃ l k xs, x = .ref l ∧ y = .int k ∧ SqT K H l xs ∧ xs ≠ [] ∧ 2 ≤ k ∧ k ≤ 10000 ∧ xs.length ≤ 1000 ∧ ∀ p, H p = none → Q (.ref p) (upd H p (.tup (List.replicate k.toNat xs).flatten))
theorem op_repU {X : Cx} : OpR X (binaryOp .Mult) (rRepU X.K) := by
  intro pins s σ H x y v u Q I rx ry h
  obtain ⟨l, k, xs, rfl, rfl, hT, ne, k1, k2, z, q⟩ := h
  cases rx
  obtain ⟨t, rfl⟩ := ry
  obtain ⟨ws, r, ⟨⟨cl, dd, da, sl⟩, ho, e1, n, e2⟩, _⟩ := I.tuple hT
  simp only at e1 e2
  subst e1 e2
  have hl : ws.length = xs.length := r.length.symm
  have hi : ws.toArray.isEmpty = false := by
    cases ws with
    | nil => exact absurd (List.eq_nil_of_length_eq_zero hl.symm) ne
    | cons _ _ => rfl
  have hw : ws.toArray.size = xs.length := by rw [List.size_toArray, hl]
  have big : (xs.length : Int) * k ≤ 1000 * k := Int.mul_le_mul_of_nonneg_right (by omega) (by omega)
  have many : k.toNat * xs.length ≤ 10000 * 1000 := Nat.mul_le_mul (by omega) z
  have len : (List.replicate k.toNat ws).flatten.length ≤ sizeLine := by rw [PyProof.Rows.lm_len_rep_flat, hl, sizeLine_eq]; omega
  have t1 : (decide (k < -(2 ^ 63)) || decide (k ≥ 2 ^ 63)) = false := by rw [decide_eq_false (by omega), decide_eq_false (by omega)] <;> rfl
  have t2 : (ws.toArray.isEmpty || k == 1) = false := by rw [hi, Bool.false_or]; exact beq_eq_false_iff_ne.mpr (by omega)
  have t3 : (decide (k ≤ 0) || ws.toArray.isEmpty) = false := by rw [hi, Bool.or_false]; exact decide_eq_false (by omega)
  have t4 : Builtin.Tuple.tupleTooMany (((ws.toArray.size : Nat) : Int) * k) = false := by unfold Builtin.Tuple.tupleTooMany; rw [sizeLine_eq, hw]; exact decide_eq_false (by omega)
  have t5 : ¬ ((ws.toArray.size : Nat) : Int) * k > (2 ^ 63 - 1) / 8 := by rw [hw]; omega
  refine wpAny_binaryOp_repeat_ref (T := "tuple") (U := "int") (by decide) ⟨_, ho, rfl⟩ (fun s' => PySem.typeIs_int s' k t) noFill_tuple_mul F.fills_int_mul F.slot_int_rmul repeat_tuple F.slot_int_index.lookup
    (call_meets F.slot_int_rmul (PySem.typeIs_int s k t) F.entry_int_rmul (F.args_int_rmul_2 _ _) (int_rmul_tuple k t l ws.toArray n dd sl) ⟨ho, rfl, ⟨_, ho, rfl⟩, call_meets F.slot_tuple_mul ⟨_, ho, rfl⟩ F.entry_tuple_mul (F.args_tuple_mul_2 _ _) (tuple_mulW l ws.toArray n dd sl k t t1 t2 t3 t5 t4 (by rw [size_rep, List.size_toArray]; exact len)) ⟨ho, ?_⟩⟩)
  rw [size_rep]
  refine ⟨.ref s.heap.objs.size, _, I.laid (t' := s.toks) (o := .tup (List.replicate k.toNat xs).flatten) (fun b ob q => Heap.get?_push_of_some _ q) (Nat.le_refl _) ?_, rfl, q _ (I.hok.fresh (Nat.le_refl _))⟩
  exact ⟨by rw [PyProof.Rows.lm_len_rep_flat, sizeLine_eq]; omega, _, r.rep k.toNat, IsTup.new _ _⟩
def rMulM (K : PySem.W.Frag) : R2 := fun x y H Q => (rI CMul (fun i j => .int (i * j)) x y H Q ∨ rRep x y H Q) ∨ (rRepU K x y H Q ∨ (rRep1 K x y H Q ∨ rRep0 K x y H Q))
theorem op_mulM {X : Cx} : OpR X (binaryOp .Mult) (rMulM X.K) := (op_mul.or op_rep).or (op_repU.or (op_rep1.or op_rep0))
theorem DRs.rep {ws : Wa} {B : Addr → Prop} {H : Hp} {vs : List V} {ds : List D} (r : DRs K ws B H vs ds) : ∀ n, DRs K ws B H (List.replicate n vs).flatten (List.replicate n ds).flatten
  | 0 => .nil
  | n + 1 => by rw [List.replicate_succ, List.replicate_succ, List.flatten_cons, List.flatten_cons]; exact r.append (DRs.rep r n)
theorem rep_len {α : Type} (l : List α) : ∀ n : Nat, (List.replicate n l).flatten.length = l.length * n
  | 0 => by simp
  | n + 1 => by rw [List.replicate_succ, List.flatten_cons, List.length_append, rep_len l n, Nat.mul_succ, Nat.add_comm]
theorem so_mul : OpS K (rMulM K) mulD := by
  intro ws B H x y dx dy d Q hb hx hy ho q
  cases dx <;> cases dy <;> first
    | (simp [mulD] at ho; done)
    | skip
  · cases hx; cases hy
    simp only [mulD] at ho
    split at ho
    · cases ho; exact .inl (.inl ⟨_, _, rfl, rfl, by assumption, q _ _ (Grow.refl H) (.int _)⟩)
    · cases ho
  · rename_i l k
    obtain ⟨zx, a, vs, rfl, t, r⟩ := hx
    have hy : y = .int k := hy
    subst hy
    simp only [mulD] at ho
    split at ho
    · rename_i h1
      cases ho
      by_cases hk : k = 1
      · subst hk
        have e : (List.replicate (1 : Int).toNat l).flatten = l := by simp
        rw [e] at q
        exact .inr (.inr (.inl ⟨a, vs, rfl, rfl, t.sq, q _ _ (Grow.refl H) (.tup zx t r)⟩))
      · have hl := r.length
        refine .inr (.inl ⟨a, k, vs, rfl, rfl, t.sq, fun z => h1.1 (List.eq_nil_of_length_eq_zero (by rw [← hl, z]; rfl)), by omega, h1.2.2.1, by rw [hl]; exact h1.2.2.2, fun p hp => ?_⟩)
        refine q _ _ (Grow.new hp) (tp_new hb hp ?_ (r.rep k.toNat))
        rw [rep_len]
        have h2 : l.length * k.toNat ≤ 1000 * 10000 := Nat.mul_le_mul h1.2.2.2 (by omega)
        exact Nat.le_trans h2 (by decide)
    · split at ho
      · rename_i h1
        cases ho
        obtain ⟨h1, rfl⟩ := h1
        have hl := r.length
        exact .inr (.inr (.inr ⟨a, vs, rfl, rfl, t.sq, fun z => h1 (List.eq_nil_of_length_eq_zero (by rw [← hl, z]; rfl)), fun p hp => q _ _ (Grow.new hp) (tp_new hb hp (Nat.zero_le _) .nil)⟩))
      · cases ho
  · obtain ⟨zx, a, xs, rfl, ha, ra⟩ := hx
    cases hy
    simp only [mulD] at ho
    split at ho
    · rename_i hc
      cases ho
      have l1 := ra.length
      exact .inl (.inr ⟨a, _, xs, rfl, rfl, ha, hc.1, hc.2.1, by rw [l1]; exact hc.2.2, fun p hp => q _ _ (Grow.new hp) (ls_new hb hp (by rw [rep_len]; exact hc.2.2) (ra.rep _))⟩)
    · cases ho


def rEqM (K : PySem.W.Frag) : R2 := fun x y H Q => rEq x y H Q ∨ rEqD K x y H Q
def rNeM (K : PySem.W.Frag) : R2 := fun x y H Q => rNe x y H Q ∨ rNeD K x y H Q
theorem op_eqM {X : Cx} (hu : X.A.units + 64 < cLine) : OpR X (compareOp .Eq) (rEqM X.K) := op_eq.or (op_eqD hu)
theorem op_neM {X : Cx} (hu : X.A.units + 64 < cLine) : OpR X (compareOp .NotEq) (rNeM X.K) := op_ne.or (op_neD hu)
theorem sca_eq {ws : Wa} {B : Addr → Prop} {H : Hp} {x y : V} {dx dy : D} (h : scaD dx dy = true) (hx : DW K ws B H x dx) (hy : DW K ws B H y dy) : scal x y = true ∧ decide (x = y) = deq dx dy := by
  cases dx <;> cases dy <;> first
    | (simp [scaD] at h; done)
    | (cases hx; cases hy
       refine ⟨rfl, ?_⟩
       first
         | rfl
         | (simp only [deq]
            rw [Bool.beq_eq_decide_eq]
            congr 1
            simp)
         | (simp only [deq]
            rw [Bool.eq_iff_iff]
            simp))
theorem so_eq : OpS K (rEqM K) eqD := by
  intro ws B H x y dx dy d Q hb hx hy ho q
  unfold eqD at ho
  split at ho
  · rename_i hc
    cases ho
    rcases hc with hc | ⟨h1, h2⟩
    · obtain ⟨e1, e2⟩ := sca_eq hc hx hy
      exact .inl ⟨e1, by rw [e2]; exact q _ _ (Grow.refl H) (.bl _)⟩
    · refine .inr ⟨_, _, dw_dp h1 hx, dw_dp h2 hy, shaped_of h1 (by decide), shaped_of h2 (by decide), ?_⟩
      rw [deq_of 40 _ _ h1 h2]
      exact q _ _ (Grow.refl H) (.bl _)
  · cases ho
theorem so_ne : OpS K (rNeM K) neD := by
  intro ws B H x y dx dy d Q hb hx hy ho q
  unfold neD at ho
  split at ho
  · rename_i hc
    cases ho
    rcases hc with hc | ⟨h1, h2⟩
    · obtain ⟨e1, e2⟩ := sca_eq hc hx hy
      exact .inl ⟨e1, by rw [e2]; exact q _ _ (Grow.refl H) (.bl _)⟩
    · refine .inr ⟨_, _, dw_dp h1 hx, dw_dp h2 hy, shaped_of h1 (by decide), shaped_of h2 (by decide), ?_⟩
      rw [deq_of 40 _ _ h1 h2]
      exact q _ _ (Grow.refl H) (.bl _)
  · cases ho
end

theorem ot_add : OpT addD := fun x y d h => by cases x <;> cases y <;> first | exact ⟨rfl, rfl⟩ | cases h
theorem ot_sub : OpT subD := fun x y d h => by cases x <;> cases y <;> first | exact ⟨rfl, rfl⟩ | cases h
theorem ot_mul : OpT mulD := fun x y d h => by cases x <;> cases y <;> first | exact ⟨rfl, rfl⟩ | cases h
theorem ot_fdiv : OpT fdivD := fun x y d h => by cases x <;> cases y <;> first | exact ⟨rfl, rfl⟩ | cases h
theorem ot_mod : OpT modD := fun x y d h => by cases x <;> cases y <;> first | exact ⟨rfl, rfl⟩ | cases h
theorem ot_lt : OpT ltD := fun x y d h => by cases x <;> cases y <;> first | exact ⟨rfl, rfl⟩ | cases h
theorem ot_le : OpT leD := fun x y d h => by cases x <;> cases y <;> first | exact ⟨rfl, rfl⟩ | cases h
theorem ot_gt : OpT gtD := fun x y d h => by cases x <;> cases y <;> first | exact ⟨rfl, rfl⟩ | cases h
theorem ot_ge : OpT geD := fun x y d h => by cases x <;> cases y <;> first | exact ⟨rfl, rfl⟩ | cases h
theorem rdb_ok {n : Nat} {x : D} (h : okd n x = true) : rdb x = true := by cases x <;> first | rfl | (cases n <;> cases h)
theorem rdb_sca {x y : D} (h : scaD x y = true) : rdb x = true ∧ rdb y = true := by cases x <;> cases y <;> first | exact ⟨rfl, rfl⟩ | cases h
theorem ot_eq : OpT eqD := fun x y d h => by
  unfold eqD at h
  split at h
  · rename_i hc
    rcases hc with hc | ⟨h1, h2⟩
    · exact rdb_sca hc
    · exact ⟨rdb_ok h1, rdb_ok h2⟩
  · cases h
theorem ot_ne : OpT neD := fun x y d h => by
  unfold neD at h
  split at h
  · rename_i hc
    rcases hc with hc | ⟨h1, h2⟩
    · exact rdb_sca hc
    · exact ⟨rdb_ok h1, rdb_ok h2⟩
  · cases h
end Pm
namespace Pm
open PySem L2


def truD : D → Option Bool
  | .non => some false
  | .bl b => some b
  | .int i => some (i != 0)
  | .str x => if x.length ≤ sizeLine then some ((x.length : Int) != 0) else none
  | .tup l => some (!l.isEmpty)
  | .lst l => some (!l.isEmpty)
  | .scr l => some (!l.isEmpty)
  | .dk l => some (!l.isEmpty)
  | _ => none
def fTru (x : M D) : M Bool := x.bind fun d => M.opt (truD d)
def blD : D → Option Bool
  | .bl b => some b
  | _ => none
def fOf (x : M D) : M Bool := x.bind fun d => M.opt (blD d)
def fIf {α : Type} (c : M Bool) (f g : M α) : M α := c.bind fun b => if b = true then f else g
def fAndB (f g : M Bool) : M Bool := f.bind fun b => if b = true then g else M.pure false
def fOrB (f g : M Bool) : M Bool := f.bind fun b => if b = true then M.pure true else g
def fNotB (f : M Bool) : M Bool := f.bind fun b => M.pure (!b)
def fAnd (f g : M D) : M D := f.bind fun x => (M.opt (blD x)).bind fun b => if b = true then g else M.pure (.bl false)
def fOr (f g : M D) : M D := f.bind fun x => (M.opt (blD x)).bind fun b => if b = true then M.pure (.bl true) else g
def fNot (f : M D) : M D := f.bind fun x => (M.opt (truD x)).bind fun b => M.pure (.bl (!b))

section
variable {K : PySem.W.Frag} {mg : Str → Option Value} {Wx : WX} {ws : Wa} {B0 : Addr → Prop} {σ : L2.St} {H : Hp} {v : V}
theorem tru_of {B : Addr → Prop} {d : D} {b : Bool} (h : DW K ws B H v d) (ht : truD d = some b) : TruV K v H b := by
  cases d with
  | non => cases h; cases ht; rfl
  | bl => cases h; cases ht; rfl
  | int => cases h; cases ht; rfl
  | str x =>
    cases h
    simp only [truD] at ht
    split at ht
    · cases ht; exact ⟨by assumption, rfl⟩
    · cases ht
  | tup l =>
    obtain ⟨_, a, vs, rfl, q, r⟩ := h
    cases ht
    exact .inr (.inl ⟨vs, q.sq, by cases r <;> rfl⟩)
  | lst l =>
    obtain ⟨_, a, vs, rfl, q, r⟩ := h
    cases ht
    exact .inl ⟨vs, .inl (.inl q), by cases r <;> rfl⟩
  | scr l =>
    obtain ⟨a, rfl, q⟩ := h
    cases ht
    exact .inl ⟨_, q, by cases l <;> rfl⟩
  | dk l =>
    obtain ⟨a, kvs, rfl, q, e, r⟩ := h
    cases ht
    refine .inr (.inr ⟨kvs, q, ?_⟩)
    cases kvs <;> cases l <;> first | rfl | simp at e
  | _ => cases ht
theorem rdb_tru {d : D} {b : Bool} (h : truD d = some b) : rdb d = true := by cases d <;> first | rfl | cases h
theorem fOf_go {F : Dn} {Q : Bool → Hp → Prop} (h : tT K mg Wx (fun sl => fOf (F sl)) σ H Q) : tE K mg Wx F σ H (fun x H' => ∃ k, x = .bl k ∧ Q k H') := by
  obtain ⟨ws, B0, sl, w, e, h⟩ := h
  refine ⟨ws, B0, sl, w, e, (runAt.bind h).mono fun ws1 s1 d H1 l1 e1 h1 v hv => ?_⟩
  obtain ⟨b, q, h1⟩ := runAt.opt h1
  cases d <;> first | (cases q; done) | skip
  cases q
  cases hv
  exact ⟨_, rfl, runAt.here e1 h1⟩
end
section
variable {X : Cx} {Wx : WX} {a b c : Expr} {pos : Pos}
theorem mt_truth {f : Dn} (ha : PRm X Wx a f) (he : ∀ whole, isTrue a X.env whole = (do let v ← whole; standAt a.pos; holding [v] (truthy v)) := by intro _; rfl) : PTm X Wx a (fun sl => fTru (f sl)) := by
  refine (pt_truth ha he).mimp fun σ H Q ⟨ws, B0, sl, w, e, h⟩ => ?_
  refine ⟨ws, B0, sl, w, e, (runAt.bind h).mono fun ws1 s1 d H1 l1 e1 h1 v hv => ?_⟩
  obtain ⟨b, q2, h1⟩ := runAt.opt h1
  exact ⟨b, tru_of (e1.rv hv (rdb_tru q2)) q2, runAt.here e1 h1⟩
theorem mt_cmp {op : CmpOp} {r : R2} {o : D → D → Option D} {f g : Dn} (ho : OpR X (compareOp op) r) (hs : OpS X.K r o) (ht : OpT o) (ha : PRm X Wx a f) (hb : PRm X Wx b g) (hm : behindInMarks op b = false := by first | exact nomark _ | rfl) : PTm X Wx (.Compare a [op] [b] pos) (fun sl => fOf (fBin o (f sl) (g sl))) :=
  (pt_cmpR ho ha hb hm).mimp fun σ H Q h => fBin_go hs ht σ H _ (fOf_go h)
def fChain (o o' : D → D → Option D) (x y z : M D) : M D := x.bind fun a => y.bind fun b => (M.opt (o a b)).bind fun r => (M.opt (blD r)).bind fun t => if t = true then z.bind fun c => M.opt (o' b c) else M.pure (.bl false)
theorem fChain_go {K : PySem.W.Frag} {mg : Str → Option Value} {r r' : R2} {o o' : D → D → Option D} {f g h : Dn} (hs : OpS K r o) (ht : OpT o) (hs' : OpS K r' o') (ht' : OpT o') (σ : L2.St) (H : Hp) (Q : VK) (q : tE K mg Wx (fun sl => fChain o o' (f sl) (g sl) (h sl)) σ H Q) :
    tChain r r' (tR K mg Wx f) (tR K mg Wx g) (tR K mg Wx h) σ H Q := by
  obtain ⟨ws, B0, sl, w, e, q⟩ := q
  refine ⟨ws, B0, sl, w, e, (runAt.bind q).mono fun ws1 w1 x H1 l1 e1 h1 v hv => ?_⟩
  refine ⟨ws1, B0, sl, w1, e1, (runAt.bind h1).mono fun ws2 w2 y H2 l2 e2 h2 u hu => ?_⟩
  have hv2 := RV.le l2 hv
  cases q3 : o x y with
  | none => rw [q3] at h2; exact h2.elim
  | some z =>
    rw [q3] at h2
    simp only [opt_some, pure_bind] at h2
    obtain ⟨t1, t2⟩ := ht _ _ _ q3
    refine hs ws2 _ H2 v u x y z _ e2.bad (e2.rv hv2 t1) (e2.rv hu t2) q3 fun v' H' gr hd => ?_
    have h3 := runAt.le (gr.le ws2 (Own sl σ)) h2
    have e3 := e2.grow gr
    cases z with
    | bl k =>
      cases hd
      refine ⟨k, rfl, ?_⟩
      cases k with
      | true =>
        rw [if_pos rfl]
        refine ⟨ws2, B0, sl, w2, e3, (runAt.bind (show runAt K mg Wx ws2 B0 sl σ H' (M.bind (h sl) (fun c => M.opt (o' y c)) w2) _ from h3)).mono fun ws4 w4 c H4 l4 e4 h4 w' hw => ?_⟩
        have hu4 := RV.le ((gr.le ws2 (Own sl σ)).trans l4) hu
        obtain ⟨d4, p3, h4⟩ := runAt.opt h4
        obtain ⟨t3, t4⟩ := ht' _ _ _ p3
        exact hs' ws4 _ H4 u w' y c d4 Q e4.bad (e4.rv hu4 t3) (e4.rv hw t4) p3 fun v' H' g hd => runAt.grow g e4 h4 v' hd
      | false =>
        rw [if_neg Bool.false_ne_true]
        exact runAt.here (a := D.bl false) (w := w2) e3 h3 _ (.bl false)
    | _ => exact h3.elim
theorem m_chain {op op' : CmpOp} {r r' : R2} {o o' : D → D → Option D} {f g h : Dn} (ho : OpR X (compareOp op) r) (hs : OpS X.K r o) (ht : OpT o) (ho' : OpR X (compareOp op') r') (hs' : OpS X.K r' o') (ht' : OpT o') (ha : PRm X Wx a f) (hb : PRm X Wx b g) (hc : PRm X Wx c h)
    (hm : lastMarks [op, op'] [b, c] = false := by with_unfolding_all rfl) : PEm X Wx (.Compare a [op, op'] [b, c] pos) (fun sl => fChain o o' (f sl) (g sl) (h sl)) :=
  (pe_chain ho ho' ha hb hc hm).mimp fun σ H Q q => fChain_go hs ht hs' ht' σ H Q q
theorem mt_chain {op op' : CmpOp} {r r' : R2} {o o' : D → D → Option D} {f g h : Dn} (ho : OpR X (compareOp op) r) (hs : OpS X.K r o) (ht : OpT o) (ho' : OpR X (compareOp op') r') (hs' : OpS X.K r' o') (ht' : OpT o') (ha : PRm X Wx a f) (hb : PRm X Wx b g) (hc : PRm X Wx c h)
    (hm : lastMarks [op, op'] [b, c] = false := by with_unfolding_all rfl) : PTm X Wx (.Compare a [op, op'] [b, c] pos) (fun sl => fOf (fChain o o' (f sl) (g sl) (h sl))) :=
  (pt_chain ho ho' ha hb hc hm).mimp fun σ H Q q => fChain_go hs ht hs' ht' σ H _ (fOf_go q)

abbrev PWm (X : Cx) (Wx : WX) (e : Expr) (f : Bn) : Prop := PW X e (tT X.K X.mg Wx f)
theorem _root_.L2.PW.mimp {X : Cx} {e : Expr} {t t' : TT} (h : PW X e t) (f : ∀ σ H Q, t' σ H Q → t σ H Q) : PW X e t' := ⟨fun wh pins s σ H Q I q => h.run wh pins s σ H Q I (f _ _ _ q)⟩
variable {rest : List Expr}
theorem mw_and1 {f : Bn} (ha : PTm X Wx a f) : PWm X Wx (.BoolOp .And [a] pos) f := pw_and1 ha
theorem mw_or1 {f : Bn} (ha : PTm X Wx a f) : PWm X Wx (.BoolOp .Or [a] pos) f := pw_or1 ha
theorem mw_and {f g : Bn} (ha : PTm X Wx a f) (hb : PWm X Wx (.BoolOp .And (b :: rest) pos) g) : PWm X Wx (.BoolOp .And (a :: b :: rest) pos) (fun sl => fAndB (f sl) (g sl)) := by
  refine (pw_and ha hb).mimp fun σ H Q ⟨ws, B0, sl, w, e, h⟩ => ?_
  refine ⟨ws, B0, sl, w, e, (runAt.bind h).mono fun ws1 w1 b H1 l1 e1 h1 => ?_⟩
  cases b with
  | true => exact ⟨ws1, B0, sl, w1, e1, h1⟩
  | false => exact runAt.here e1 h1
theorem mw_or {f g : Bn} (ha : PTm X Wx a f) (hb : PWm X Wx (.BoolOp .Or (b :: rest) pos) g) : PWm X Wx (.BoolOp .Or (a :: b :: rest) pos) (fun sl => fOrB (f sl) (g sl)) := by
  refine (pw_or ha hb).mimp fun σ H Q ⟨ws, B0, sl, w, e, h⟩ => ?_
  refine ⟨ws, B0, sl, w, e, (runAt.bind h).mono fun ws1 w1 b H1 l1 e1 h1 => ?_⟩
  cases b with
  | true => exact runAt.here e1 h1
  | false => exact ⟨ws1, B0, sl, w1, e1, h1⟩
theorem mt_w {f : Bn} (h : PWm X Wx a f) : PTm X Wx a f := h.pt
theorem mt_not {f : Bn} (ha : PTm X Wx a f) : PTm X Wx (.UnaryOp .Not a pos) (fun sl => fNotB (f sl)) := by
  refine (pt_not ha).mimp fun σ H Q ⟨ws, B0, sl, w, e, h⟩ => ?_
  exact ⟨ws, B0, sl, w, e, (runAt.bind h).mono fun ws1 s1 b H1 l1 e1 h1 => runAt.here e1 h1⟩
theorem m_and {f g : Dn} (ha : PEm X Wx a f) (hb : PEm X Wx (.BoolOp .And (b :: rest) pos) g) : PEm X Wx (.BoolOp .And (a :: b :: rest) pos) (fun sl => fAnd (f sl) (g sl)) := by
  refine (pe_and ha hb).mimp fun σ H Q ⟨ws, B0, sl, w, e, h⟩ => ?_
  refine ⟨ws, B0, sl, w, e, (runAt.bind h).mono fun ws1 w1 x H1 l1 e1 h1 v hv => ?_⟩
  cases x with
  | bl k =>
    cases hv
    refine ⟨k, rfl, ?_⟩
    cases k with
    | true => exact ⟨ws1, B0, sl, w1, e1, h1⟩
    | false => exact runAt.here (a := D.bl false) (w := w1) e1 h1 _ (.bl false)
  | _ => exact h1.elim
theorem m_one {op} {f : Dn} (ha : PEm X Wx a f) : PEm X Wx (.BoolOp op [a] pos) f := pe_one ha
theorem m_not {f : Dn} (ha : PRm X Wx a f) : PEm X Wx (.UnaryOp .Not a pos) (fun sl => fNot (f sl)) := by
  refine (pe_notT ha).mimp fun σ H Q ⟨ws, B0, sl, w, e, h⟩ => ?_
  refine ⟨ws, B0, sl, w, e, (runAt.bind h).mono fun ws1 s1 d H1 l1 e1 h1 v hv => ?_⟩
  cases q3 : truD d with
  | none => rw [q3] at h1; exact h1.elim
  | some b =>
    rw [q3] at h1
    exact ⟨b, tru_of (e1.rv hv (rdb_tru q3)) q3, runAt.here e1 h1 _ (.bl _)⟩
theorem m_if {cf : Bn} {f g : Dn} (hc : PTm X Wx c cf) (ha : PEm X Wx a f) (hb : PEm X Wx b g) : PEm X Wx (.IfExp c a b pos) (fun sl => fIf (cf sl) (f sl) (g sl)) := by
  refine (pe_ifExp hc ha hb).mimp fun σ H Q ⟨ws, B0, sl, w, e, h⟩ => ?_
  refine ⟨ws, B0, sl, w, e, (runAt.bind h).mono fun ws1 w1 b H1 l1 e1 h1 => ?_⟩
  cases b with
  | true => exact ⟨ws1, B0, sl, w1, e1, h1⟩
  | false => exact ⟨ws1, B0, sl, w1, e1, h1⟩
def negD : D → Option D
  | .int i => some (.int (-i))
  | _ => none
def fNeg (x : M D) : M D := x.bind fun d => M.opt (negD d)
theorem m_neg {f : Dn} (ha : PEm X Wx a f) : PEm X Wx (.UnaryOp .USub a pos) (fun sl => fNeg (f sl)) := by
  refine (pe_un un_neg ha).mimp fun σ H Q ⟨ws, B0, sl, w, e, h⟩ => ?_
  refine ⟨ws, B0, sl, w, e, (runAt.bind h).mono fun ws1 s1 d H1 l1 e1 h1 v hv => ?_⟩
  obtain ⟨r, q, h1⟩ := runAt.opt h1
  cases d <;> first | (cases q; done) | skip
  cases q
  cases hv
  exact ⟨_, rfl, runAt.here e1 h1 _ (.int _)⟩


def fNil : M (List D) := M.pure []
def fCons (x : M D) (r : M (List D)) : M (List D) := x.bind fun a => r.bind fun l => M.pure (a :: l)
variable {e : Expr} {es : List Expr}
theorem ma_nil : PAm X Wx [] (fun _ => fNil) := pa_nil.mimp fun σ H Q ⟨ws, B0, sl, w, e, h⟩ => runAt.here e h [] .nil
theorem ma_cons {f : Dn} {g : An} (ha : PEm X Wx e f) (hr : PAm X Wx es g) (hs : starEach (e :: es) X.env = (false, eval e X.env) :: starEach es X.env := by rfl) : PAm X Wx (e :: es) (fun sl => fCons (f sl) (g sl)) := by
  refine (pa_cons ha hr hs).mimp fun σ H Q ⟨ws, B0, sl, w, e, h⟩ => ?_
  refine ⟨ws, B0, sl, w, e, (runAt.bind h).mono fun ws1 w1 x H1 l1 e1 h1 v hv => ?_⟩
  refine ⟨ws1, B0, sl, w1, e1, (runAt.bind h1).mono fun ws2 w2 xs H2 l2 e2 h2 vs hvs => ?_⟩
  exact runAt.here e2 h2 _ (.cons (hv.le l2) hvs)
theorem mr_nil : PArm X Wx [] (fun _ => fNil) := pa_nil.mimp fun σ H Q ⟨ws, B0, sl, w, e, h⟩ => runAt.here e h [] .nil
theorem mr_cons {f : Dn} {g : An} (ha : PRm X Wx e f) (hr : PArm X Wx es g) (hs : starEach (e :: es) X.env = (false, eval e X.env) :: starEach es X.env := by rfl) : PArm X Wx (e :: es) (fun sl => fCons (f sl) (g sl)) := by
  refine (pa_cons ha hr hs).mimp fun σ H Q ⟨ws, B0, sl, w, e, h⟩ => ?_
  refine ⟨ws, B0, sl, w, e, (runAt.bind h).mono fun ws1 w1 x H1 l1 e1 h1 v hv => ?_⟩
  refine ⟨ws1, B0, sl, w1, e1, (runAt.bind h1).mono fun ws2 w2 xs H2 l2 e2 h2 vs hvs => ?_⟩
  exact runAt.here e2 h2 _ (.cons (RV.le l2 hv) hvs)
def fTup (g : M (List D)) : M D := g.bind fun l => M.pure (.tup l)
def fLst (g : M (List D)) : M D := g.bind fun l => M.pure (.lst l)
def Cnt (n : Nat) (g : An) : Prop := ∀ sl w l w', g sl w = .ok l w' → l.length = n
theorem cnt_nil : Cnt 0 (fun _ => fNil) := fun sl w l w' h => by cases h; rfl
theorem cnt_cons {n : Nat} {f : Dn} {g : An} (h : Cnt n g) : Cnt (n + 1) (fun sl => fCons (f sl) (g sl)) := fun sl w l w' q => by
  have q : M.bind (f sl) (fun a => (g sl).bind fun l => M.pure (a :: l)) w = .ok l w' := q
  unfold M.bind at q
  cases q1 : f sl w with
  | bad => rw [q1] at q; cases q
  | ex c w1 => rw [q1] at q; cases q
  | ok a w1 =>
    rw [q1] at q
    simp only at q
    cases q2 : g sl w1 with
    | bad => rw [q2] at q; cases q
    | ex c w1 => rw [q2] at q; cases q
    | ok r w2 =>
      rw [q2] at q
      cases q
      rw [List.length_cons, h _ _ _ _ q2]
theorem m_tup {n : Nat} {g : An} {x1} (h : PAm X Wx es g) (hn : Cnt n g) (hz : n ≤ 1000 := by decide) : PEm X Wx (.Tuple es x1 pos) (fun sl => fTup (g sl)) := by
  refine (pe_tup h).mimp fun σ H Q ⟨ws, B0, sl, w, e, h⟩ => ?_
  refine ⟨ws, B0, sl, w, e, ?_⟩
  have h1 := runAt.bind h
  cases q : g sl w with
  | bad => rw [q] at h1; exact h1
  | ex c w1 => rw [q] at h1; exact h1
  | ok ds w1 =>
    rw [q] at h1
    intro ws1 H1 l1 e1 vs hvs
    have h2 := h1 ws1 H1 l1 e1
    have hl := hvs.length
    have hz' : ds.length ≤ sizeLine := by rw [hn _ _ _ _ q]; exact Nat.le_trans hz (by decide)
    exact ⟨by omega, fun p hp => runAt.grow (Grow.new hp) e1 h2 _ (tp_new e1.bad hp hz' hvs)⟩
theorem m_lst {n : Nat} {g : An} (h : PAm X Wx es g) (hn : Cnt n g) (hz : n ≤ 1000 := by decide) : PEm X Wx (.List es pos) (fun sl => fLst (g sl)) := by
  refine (pe_lst h).mimp fun σ H Q ⟨ws, B0, sl, w, e, h⟩ => ?_
  refine ⟨ws, B0, sl, w, e, ?_⟩
  have h1 := runAt.bind h
  cases q : g sl w with
  | bad => rw [q] at h1; exact h1
  | ex c w1 => rw [q] at h1; exact h1
  | ok ds w1 =>
    rw [q] at h1
    intro ws1 H1 l1 e1 vs hvs
    have h2 := h1 ws1 H1 l1 e1
    have hl := hvs.length
    have hz' : ds.length ≤ sizeLine := by rw [hn _ _ _ _ q]; exact Nat.le_trans hz (by decide)
    exact ⟨by omega, fun p hp => runAt.grow (Grow.new hp) e1 h2 _ (ls_new e1.bad hp hz' hvs)⟩
end
end Pm
namespace Pm
open PySem L2


def ixD : D → D → Option D
  | .tup l, .int i => atI l i
  | .lst l, .int i => atI l i
  | .scr l, .int i => (atI l i).map .int
  | .str z, .int i => if z.length ≤ sizeLine then (atI z.cps.toList i).map fun c => .str ⟨#[c]⟩ else none
  | _, _ => none
section
variable {K : PySem.W.Frag} {ws : Wa} {B : Addr → Prop} {H : Hp}
theorem atI_DRs {vs : List V} {ds : List D} {i : Int} {d : D} (r : DRs K ws B H vs ds) (h : atI ds i = some d) : ∃ v, atI vs i = some v ∧ DR K ws B H v d := by
  unfold atI at h ⊢
  rw [r.length]
  cases q : ixN ds.length i with
  | none => rw [q] at h; cases h
  | some j =>
    rw [q] at h
    obtain ⟨v, h1, h2⟩ := r.get h
    exact ⟨v, h1, h2⟩
theorem atI_map {α β : Type} (f : α → β) (l : List α) (i : Int) : atI (l.map f) i = (atI l i).map f := by
  unfold atI
  rw [List.length_map]
  cases ixN l.length i with
  | none => rfl
  | some j => simp
theorem so_ix : OpS K (rIx K) ixD := by
  intro ws B H x y dx dy d Q hb hx hy ho q
  cases dx <;> cases dy <;> first
    | (simp [ixD] at ho; done)
    | skip
  · cases hx; cases hy
    simp only [ixD] at ho
    split at ho
    · rename_i z i hz
      cases e : atI z.cps.toList i with
      | none => rw [e] at ho; cases ho
      | some c =>
        rw [e] at ho
        cases ho
        exact .inr (.inr ⟨z, i, c, rfl, rfl, hz, e, q _ _ (Grow.refl H) (.str _)⟩)
    · cases ho
  · obtain ⟨zx, a, vs, rfl, t, r⟩ := hx
    cases hy
    obtain ⟨v, h1, h2⟩ := atI_DRs r ho
    exact .inr (.inl ⟨a, vs, _, v, rfl, rfl, t.sq, h1, q _ _ (Grow.refl H) h2⟩)
  · obtain ⟨zx, a, vs, rfl, t, r⟩ := hx
    cases hy
    obtain ⟨v, h1, h2⟩ := atI_DRs r ho
    exact .inl ⟨a, vs, _, v, rfl, rfl, .inl (.inl t), h1, q _ _ (Grow.refl H) h2⟩
  · obtain ⟨a, rfl, t⟩ := hx
    cases hy
    rename_i l i
    simp only [ixD] at ho
    cases e : atI l i with
    | none => rw [e] at ho; cases ho
    | some c =>
      rw [e] at ho
      cases ho
      exact .inl ⟨a, _, i, .int c, rfl, rfl, t, by rw [atI_map, e]; rfl, q _ _ (Grow.refl H) (.int _)⟩
end
theorem ot_ix : OpT ixD := fun x y d h => by cases x <;> cases y <;> first | exact ⟨rfl, rfl⟩ | cases h
section
variable {X : Cx} {Wx : WX} {a b e : Expr} {pos : Pos}
theorem m_ix {f g : Dn} (ha : PRm X Wx a f) (hb : PRm X Wx b g) (hs : PlainIx b := by exact fun _ _ => rfl) : PEm X Wx (.Subscript a b pos) (fun sl => fBin ixD (f sl) (g sl)) :=
  (pe_ix ix_seq ha hb hs).mimp fun σ H Q h => fBin_go so_ix ot_ix σ H Q h


def cutL {α : Type} (xs : List α) (lo hi : Option Int) : List α := (xs.drop (HT.sIx xs.length 0 lo)).take (HT.sIx xs.length xs.length hi - HT.sIx xs.length 0 lo)
def slD : D → Option Int → Option Int → Option D
  | .tup l, lo, hi => some (.tup (cutL l lo hi))
  | .lst l, lo, hi => some (.lst (cutL l lo hi))
  | .str z, lo, hi => if z.length ≤ sizeLine then some (.str (cutS z lo hi)) else none
  | _, _, _ => none
abbrev On := Ls → M (Option Int)
def intD : D → Option Int
  | .int i => some i
  | _ => none
def fONo : M (Option Int) := M.pure none
def fOSo (x : M D) : M (Option Int) := x.bind fun d => (M.opt (intD d)).bind fun i => M.pure (some i)
def tOm (K : PySem.W.Frag) (mg : Str → Option Value) (Wx : WX) (f : On) : TO := fun σ H Q => ∃ ws B0 sl w, Env K ws B0 sl w σ H ∧ runAt K mg Wx ws B0 sl σ H (f sl w) fun _ _ o H' => Q o H'
abbrev POm (X : Cx) (Wx : WX) (e : Option Expr) (f : On) : Prop := PO X e (tOm X.K X.mg Wx f)
theorem _root_.L2.PO.mimp {X : Cx} {e : Option Expr} {t t' : TO} (h : PO X e t) (f : ∀ σ H Q, t' σ H Q → t σ H Q) : PO X e t' := ⟨fun pins s σ H Q I q => h.run pins s σ H Q I (f _ _ _ q)⟩
theorem mo_none : POm X Wx none (fun _ => fONo) := po_none.mimp fun σ H Q ⟨ws, B0, sl, w, e, h⟩ => runAt.here e h
theorem mo_some {f : Dn} (h : PEm X Wx e f) : POm X Wx (some e) (fun sl => fOSo (f sl)) := by
  refine (po_some h).mimp fun σ H Q ⟨ws, B0, sl, w, e, h⟩ => ?_
  refine ⟨ws, B0, sl, w, e, (runAt.bind h).mono fun ws1 s1 d H1 l1 e1 h1 v hv => ?_⟩
  cases d with
  | int i =>
    cases hv
    exact ⟨i, rfl, runAt.here e1 h1⟩
  | _ => exact h1.elim
def fSl (x : M D) (lo hi : M (Option Int)) : M D := x.bind fun a => lo.bind fun i => hi.bind fun j => M.opt (slD a i j)
def rSlM (K : PySem.W.Frag) : V → Option Int → Option Int → Hp → VK → Prop := fun x lo hi H Q => rSlA K x lo hi H Q ∨ (rSlL K x lo hi H Q ∨ rSlS x lo hi H Q)
theorem sl_M : SlR X (rSlM X.K) := sl_tupA.or (sl_list.or sl_str)
theorem cutL_le {α : Type} {xs : List α} {lo hi : Option Int} {n : Nat} (h : xs.length ≤ n) : (cutL xs lo hi).length ≤ n := by
  unfold cutL
  rw [List.length_take, List.length_drop]
  omega
theorem rdb_sl {x d : D} {lo hi : Option Int} (h : slD x lo hi = some d) : rdb x = true := by cases x <;> first | rfl | cases h
theorem so_sl {K : PySem.W.Frag} {ws : Wa} {B : Addr → Prop} {H : Hp} {x : V} {dx d : D} {lo hi : Option Int} {Q : VK} (hb : ∀ a, B a → H a ≠ none) (hx : DW K ws B H x dx) (ho : slD dx lo hi = some d) (q : ∀ v H', Grow H H' → DR K ws B H' v d → Q v H') : rSlM K x lo hi H Q := by
  cases dx with
  | tup l =>
    obtain ⟨zx, a, vs, rfl, t, r⟩ := hx
    cases ho
    have hl := r.length
    refine .inl ⟨a, vs, rfl, t.sq, fun z => ?_, fun _ p hp => q _ _ (Grow.new hp) (tp_new hb hp (cutL_le zx) ?_)⟩
    · have e : cutL l lo hi = l := by
        unfold cutL
        rw [← hl, z.1, z.2, List.drop_zero, Nat.sub_zero, hl, List.take_length]
      rw [e] at q
      exact q _ _ (Grow.refl H) (.tup zx t r)
    · unfold cutV cutL
      rw [hl]
      exact (r.drop _).take _
  | lst l =>
    obtain ⟨zx, a, vs, rfl, t, r⟩ := hx
    cases ho
    have hl := r.length
    refine .inr (.inl ⟨a, vs, rfl, .inl (.inl t), fun p hp => q _ _ (Grow.new hp) (ls_new hb hp (cutL_le zx) ?_)⟩)
    unfold cutV cutL
    rw [hl]
    exact (r.drop _).take _
  | str z =>
    cases hx
    simp only [slD] at ho
    split at ho
    · rename_i hz
      cases ho
      exact .inr (.inr ⟨z, rfl, hz, q _ _ (Grow.refl H) (.str _)⟩)
    · cases ho
  | _ => cases ho
theorem m_sl {lo hi : Option Expr} {f : Dn} {gl gh : On} {p2 : Pos} (he : PRm X Wx e f) (hl : POm X Wx lo gl) (hh : POm X Wx hi gh) : PEm X Wx (.Subscript e (.Slice lo hi none p2) pos) (fun sl => fSl (f sl) (gl sl) (gh sl)) := by
  refine (pe_slice sl_M he hl hh).mimp fun σ H Q ⟨ws, B0, sl, w, e, h⟩ => ?_
  refine ⟨ws, B0, sl, w, e, (runAt.bind h).mono fun ws1 w1 x H1 l1 e1 h1 v hv => ?_⟩
  refine ⟨ws1, B0, sl, w1, e1, (runAt.bind h1).mono fun ws2 w2 i H2 l2 e2 h2 => ?_⟩
  refine ⟨ws2, B0, sl, w2, e2, (runAt.bind h2).mono fun ws3 w3 j H3 l3 e3 h3 => ?_⟩
  obtain ⟨d, q2, h3⟩ := runAt.opt h3
  exact so_sl e3.bad (e3.rv (RV.le (l2.trans l3) hv) (rdb_sl q2)) q2 fun v' H' g hd => runAt.grow g e3 h3 v' hd


inductive DWs (K : PySem.W.Frag) (ws : Wa) (B : Addr → Prop) (H : Hp) : List V → List D → Prop
  | nil : DWs K ws B H [] []
  | cons {v : V} {vs : List V} {d : D} {ds : List D} : DW K ws B H v d → DWs K ws B H vs ds → DWs K ws B H (v :: vs) (d :: ds)
theorem Env.rvs {K : PySem.W.Frag} {ws : Wa} {B0 : Addr → Prop} {sl : Ls} {w : W} {σ : L2.St} {H : Hp} (e : Env K ws B0 sl w σ H) : ∀ {vs : List V} {ds : List D}, RVs K ws B0 sl σ H vs ds → ds.all rdb = true → DWs K ws (Bad ws B0 sl σ) H vs ds
  | _, _, .nil, h => .nil
  | _, _, .cons h1 hr, h => by
    simp only [List.all_cons, Bool.and_eq_true] at h
    exact .cons (e.rv h1 h.1) (Env.rvs e hr h.2)
def CallT (fn : List D → Option D) : Prop := ∀ ds d, fn ds = some d → ds.all rdb = true
def CallS (K : PySem.W.Frag) (r : List V → Hp → VK → Prop) (fn : List D → Option D) : Prop := ∀ (ws : Wa) (B : Addr → Prop) (H : Hp) (xs : List V) (ds : List D) (d : D) (Q : VK), (∀ a, B a → H a ≠ none) → DWs K ws B H xs ds → fn ds = some d →
  (∀ v H', Grow H H' → DR K ws B H' v d → Q v H') → r xs H Q
def fCB (fn : List D → Option D) (g : M (List D)) : M D := g.bind fun l => M.opt (fn l)
theorem fCB_go {K : PySem.W.Frag} {mg : Str → Option Value} {r : List V → Hp → VK → Prop} {fn : List D → Option D} {g : An} (hs : CallS K r fn) (ht : CallT fn) (σ : L2.St) (H : Hp) (Q : VK) (h : tE K mg Wx (fun sl => fCB fn (g sl)) σ H Q) : tCB r (tAr K mg Wx g) σ H Q := by
  obtain ⟨ws, B0, sl, w, e, h⟩ := h
  refine ⟨ws, B0, sl, w, e, (runAt.bind h).mono fun ws1 w1 ds H1 l1 e1 h1 vs hv => ?_⟩
  obtain ⟨d, q2, h1⟩ := runAt.opt h1
  exact hs ws1 _ H1 vs ds d Q e1.bad (e1.rvs hv (ht _ _ q2)) q2 fun v' H' g hd => runAt.grow g e1 h1 v' hd
variable {es : List Expr} {x : Str} {p : Pos}
theorem m_callB {id : String} {r : List V → Hp → VK → Prop} {fn : List D → Option D} {g : An} (hc : CallR X (.builtin id) r) (hs : CallS X.K r fn) (ht : CallT fn) (hg : Gl X x) (hm : X.mg x = none) (hv : bootBuiltins x = some (.builtin id)) (ha : PArm X Wx (e :: es) g) (hn : x ≠ "__name__" := by decide) (hdb : (x == ("__debug__" : Str)) = false := by decide)
    (he : starEach (e :: es) X.env = (false, eval e X.env) :: starEach es X.env := by rfl) (hpl : (backTo pos (starEach es X.env)).any (·.1) = false := by rfl) : PEm X Wx (.Call (.Name x p) (e :: es) [] pos) (fun sl => fCB fn (g sl)) :=
  (pe_callB hc hg hm hv ha hn hdb he hpl).mimp fun σ H Q h => fCB_go hs ht σ H Q h
theorem m_callTy {T : String} {r : List V → Hp → VK → Prop} {fn : List D → Option D} {g : An} (hc : CallR X (.type T) r) (hs : CallS X.K r fn) (ht : CallT fn) (hg : Gl X x) (hm : X.mg x = none) (hv : bootBuiltins x = some (.type T)) (ha : PArm X Wx (e :: es) g) (hn : x ≠ "__name__" := by decide) (hdb : (x == ("__debug__" : Str)) = false := by decide)
    (he : starEach (e :: es) X.env = (false, eval e X.env) :: starEach es X.env := by rfl) (hpl : (backTo pos (starEach es X.env)).any (·.1) = false := by rfl) : PEm X Wx (.Call (.Name x p) (e :: es) [] pos) (fun sl => fCB fn (g sl)) :=
  (pe_callTy hc hg hm hv ha hn hdb he hpl).mimp fun σ H Q h => fCB_go hs ht σ H Q h
end

def intsOf : List D → Option (List Int)
  | [] => some []
  | .int i :: r => (intsOf r).map (i :: ·)
  | _ => none
@[simp] theorem intsOf_map : ∀ ns : List Int, intsOf (ns.map D.int) = some ns
  | [] => rfl
  | n :: r => by rw [List.map_cons, intsOf, intsOf_map r]; rfl
theorem of_intsOf : ∀ {ds : List D} {ns : List Int}, intsOf ds = some ns → ds = ns.map D.int
  | [], ns, h => by cases h; rfl
  | .int i :: r, ns, h => by
    rw [intsOf] at h
    cases q : intsOf r with
    | none => rw [q] at h; cases h
    | some m => rw [q] at h; cases h; rw [of_intsOf q]; rfl
  | .non :: _, _, h => by cases h
  | .bl _ :: _, _, h => by cases h
  | .str _ :: _, _, h => by cases h
  | .tup _ :: _, _, h => by cases h
  | .lst _ :: _, _, h => by cases h
  | .scr _ :: _, _, h => by cases h
  | .dk _ :: _, _, h => by cases h
  | .dt _ :: _, _, h => by cases h
  | .town :: _, _, h => by cases h
  | .fn _ _ _ :: _, _, h => by cases h
  | .obj _ :: _, _, h => by cases h
def blsOf : List D → Option (List Bool)
  | [] => some []
  | .bl i :: r => (blsOf r).map (i :: ·)
  | _ => none
@[simp] theorem blsOf_map : ∀ ns : List Bool, blsOf (ns.map D.bl) = some ns
  | [] => rfl
  | n :: r => by rw [List.map_cons, blsOf, blsOf_map r]; rfl
theorem of_blsOf : ∀ {ds : List D} {ns : List Bool}, blsOf ds = some ns → ds = ns.map D.bl
  | [], ns, h => by cases h; rfl
  | .bl i :: r, ns, h => by
    rw [blsOf] at h
    cases q : blsOf r with
    | none => rw [q] at h; cases h
    | some m => rw [q] at h; cases h; rw [of_blsOf q]; rfl
  | .non :: _, _, h => by cases h
  | .int _ :: _, _, h => by cases h
  | .str _ :: _, _, h => by cases h
  | .tup _ :: _, _, h => by cases h
  | .lst _ :: _, _, h => by cases h
  | .scr _ :: _, _, h => by cases h
  | .dk _ :: _, _, h => by cases h
  | .dt _ :: _, _, h => by cases h
  | .town :: _, _, h => by cases h
  | .fn _ _ _ :: _, _, h => by cases h
  | .obj _ :: _, _, h => by cases h


def lenF : List D → Option D
  | [.str z] => if z.length ≤ sizeLine then some (.int z.length) else none
  | [.tup l] => some (.int l.length)
  | [.lst l] => some (.int l.length)
  | [.scr l] => some (.int l.length)
  | _ => none
section
variable {K : PySem.W.Frag} {ws : Wa} {B : Addr → Prop} {H : Hp}
theorem one_of {d : D} {xs : List V} (h : DWs K ws B H xs [d]) : ∃ v, xs = [v] ∧ DW K ws B H v d := by
  cases h with
  | cons h1 h2 => cases h2; exact ⟨_, rfl, h1⟩
theorem two_of {d e : D} {xs : List V} (h : DWs K ws B H xs [d, e]) : ∃ v u, xs = [v, u] ∧ DW K ws B H v d ∧ DW K ws B H u e := by
  cases h with
  | cons h1 h2 => obtain ⟨u, rfl, h3⟩ := one_of h2; exact ⟨_, u, rfl, h1, h3⟩
theorem three_of {d e f : D} {xs : List V} (h : DWs K ws B H xs [d, e, f]) : ∃ v u w, xs = [v, u, w] ∧ DW K ws B H v d ∧ DW K ws B H u e ∧ DW K ws B H w f := by
  cases h with
  | cons h1 h2 => obtain ⟨u, w, rfl, h3⟩ := two_of h2; exact ⟨_, u, w, rfl, h1, h3⟩
theorem cs_len : CallS K (fun xs H Q => ∃ x n, xs = [x] ∧ LenV K x H n ∧ Q (.int n) H) lenF := by
  intro ws B H xs ds d Q hb hx ho q
  unfold lenF at ho
  split at ho
  · rename_i z
    obtain ⟨v, rfl, hv⟩ := one_of hx
    split at ho
    · rename_i hz; cases ho; cases hv; exact ⟨_, _, rfl, ⟨hz, rfl⟩, q _ _ (Grow.refl H) (.int _)⟩
    · cases ho
  · obtain ⟨v, rfl, zx, a, vs, rfl, t, r⟩ := one_of hx
    cases ho
    exact ⟨_, vs.length, rfl, .inr ⟨vs, t.sq, rfl⟩, by rw [r.length]; exact q _ _ (Grow.refl H) (.int _)⟩
  · obtain ⟨v, rfl, zx, a, vs, rfl, t, r⟩ := one_of hx
    cases ho
    exact ⟨_, vs.length, rfl, .inl ⟨vs, .inl (.inl t), rfl⟩, by rw [r.length]; exact q _ _ (Grow.refl H) (.int _)⟩
  · rename_i l
    obtain ⟨v, rfl, a, rfl, t⟩ := one_of hx
    cases ho
    exact ⟨_, l.length, rfl, .inl ⟨_, t, by rw [List.length_map]⟩, q _ _ (Grow.refl H) (.int _)⟩
  · cases ho


def absF : List D → Option D
  | [.int i] => some (.int (if i < 0 then -i else i))
  | _ => none
theorem cs_abs : CallS K (fun xs H Q => ∃ i, xs = [.int i] ∧ Q (.int (if i < 0 then -i else i)) H) absF := by
  intro ws B H xs ds d Q hb hx ho q
  unfold absF at ho
  split at ho
  · obtain ⟨v, rfl, hv⟩ := one_of hx
    cases ho; cases hv
    exact ⟨_, rfl, q _ _ (Grow.refl H) (.int _)⟩
  · cases ho
def intF : List D → Option D
  | [.int i] => some (.int i)
  | [.bl b] => some (.int (if b then 1 else 0))
  | _ => none

def sumF : List D → Option D
  | [.lst l] => (intsOf l).map fun ns => .int ns.sum
  | _ => none
theorem cs_sum : CallS K (rSum K) sumF := by
  intro ws B H xs ds d Q hb hx ho q
  unfold sumF at ho
  split at ho
  · rename_i l
    obtain ⟨v, rfl, zx, a, vs, rfl, t, r⟩ := one_of hx
    cases e : intsOf l with
    | none => rw [e] at ho; cases ho
    | some ns =>
      rw [e] at ho; cases ho
      rw [of_intsOf e] at r
      have ev := r.of_ints
      subst ev
      exact ⟨a, ns, rfl, .inl (.inl t), q _ _ (Grow.refl H) (.int _)⟩
  · cases ho
def allF : List D → Option D
  | [.lst l] => (blsOf l).map fun ns => .bl (ns.all id)
  | _ => none
theorem cs_all : CallS K (rAll K) allF := by
  intro ws B H xs ds d Q hb hx ho q
  unfold allF at ho
  split at ho
  · rename_i l
    obtain ⟨v, rfl, zx, a, vs, rfl, t, r⟩ := one_of hx
    cases e : blsOf l with
    | none => rw [e] at ho; cases ho
    | some ns =>
      rw [e] at ho; cases ho
      rw [of_blsOf e] at r
      have ev := r.of_bls
      subst ev
      exact ⟨a, ns, rfl, .inl (.inl t), q _ _ (Grow.refl H) (.bl _)⟩
  · cases ho
def anyF : List D → Option D
  | [.lst l] => (blsOf l).map fun ns => .bl (ns.any id)
  | _ => none

def tupF : List D → Option D
  | [.lst l] => some (.tup l)
  | [.tup l] => some (.tup l)
  | _ => none
theorem cs_tup : CallS K (fun xs H Q => ∃ p ys, xs = [.ref p] ∧ ((SqL K H p ys ∧ ∀ l, H l = none → Q (.ref l) (upd H l (.tup ys))) ∨ (SqT K H p ys ∧ Q (.ref p) H))) tupF := by
  intro ws B H xs ds d Q hb hx ho q
  unfold tupF at ho
  split at ho
  · obtain ⟨v, rfl, zx, a, vs, rfl, t, r⟩ := one_of hx
    cases ho
    exact ⟨a, vs, rfl, .inl ⟨.inl (.inl t), fun p hp => q _ _ (Grow.new hp) (tp_new hb hp zx r)⟩⟩
  · obtain ⟨v, rfl, zx, a, vs, rfl, t, r⟩ := one_of hx
    cases ho
    exact ⟨a, vs, rfl, .inr ⟨t.sq, q _ _ (Grow.refl H) (.tup zx t r)⟩⟩
  · cases ho
def lstF : List D → Option D
  | [.lst l] => some (.lst l)
  | [.tup l] => some (.lst l)
  | _ => none
theorem cs_lst : CallS K (fun xs H Q => ∃ p ys, xs = [.ref p] ∧ (SqL K H p ys ∨ SqT K H p ys) ∧ ∀ l, H l = none → Q (.ref l) (upd H l (.lst ys))) lstF := by
  intro ws B H xs ds d Q hb hx ho q
  unfold lstF at ho
  split at ho
  · obtain ⟨v, rfl, zx, a, vs, rfl, t, r⟩ := one_of hx
    cases ho
    exact ⟨a, vs, rfl, .inl (.inl (.inl t)), fun p hp => q _ _ (Grow.new hp) (ls_new hb hp zx r)⟩
  · obtain ⟨v, rfl, zx, a, vs, rfl, t, r⟩ := one_of hx
    cases ho
    exact ⟨a, vs, rfl, .inr t.sq, fun p hp => q _ _ (Grow.new hp) (ls_new hb hp zx r)⟩
  · cases ho


def bigF (f : Int → Int → Int) : List D → Option D
  | [.int i, .int j] => some (.int (f i j))
  | [.int i, .int j, .int k] => some (.int (f (f i j) k))
  | [.lst l] => (intsOf l).bind fun ns => match ns with | [] => none | n :: r => some (.int (r.foldl f n))
  | [.tup l] => (intsOf l).bind fun ns => match ns with | [] => none | n :: r => some (.int (r.foldl f n))
  | _ => none
def maxF : List D → Option D := bigF max
def minF : List D → Option D := bigF min
def rBig (K : PySem.W.Frag) (f : Int → Int → Int) : List V → Hp → VK → Prop := fun xs H Q =>
  (∃ i j, xs = [.int i, .int j] ∧ Q (.int (f i j)) H) ∨ (∃ i j k, xs = [.int i, .int j, .int k] ∧ Q (.int (f (f i j) k)) H) ∨
  (∃ (a : Addr) (n : Int) (r : List Int), xs = [.ref a] ∧ (SqL K H a ((n :: r).map V.int) ∨ SqT K H a ((n :: r).map V.int)) ∧ Q (.int (r.foldl f n)) H)
theorem cs_big {f : Int → Int → Int} : CallS K (rBig K f) (bigF f) := by
  intro ws B H xs ds d Q hb hx ho q
  unfold bigF at ho
  split at ho
  · obtain ⟨v, u, rfl, hv, hu⟩ := two_of hx
    cases ho; cases hv; cases hu
    exact .inl ⟨_, _, rfl, q _ _ (Grow.refl H) (.int _)⟩
  · obtain ⟨v, u, w, rfl, hv, hu, hw⟩ := three_of hx
    cases ho; cases hv; cases hu; cases hw
    exact .inr (.inl ⟨_, _, _, rfl, q _ _ (Grow.refl H) (.int _)⟩)
  · rename_i l
    obtain ⟨v, rfl, zx, a, vs, rfl, t, r⟩ := one_of hx
    cases e : intsOf l with
    | none => rw [e] at ho; cases ho
    | some ns =>
      rw [e] at ho
      cases ns with
      | nil => cases ho
      | cons n ns =>
        cases ho
        rw [of_intsOf e] at r
        have ev := r.of_ints
        subst ev
        exact .inr (.inr ⟨a, n, ns, rfl, .inl (.inl (.inl t)), q _ _ (Grow.refl H) (.int _)⟩)
  · rename_i l
    obtain ⟨v, rfl, zx, a, vs, rfl, t, r⟩ := one_of hx
    cases e : intsOf l with
    | none => rw [e] at ho; cases ho
    | some ns =>
      rw [e] at ho
      cases ns with
      | nil => cases ho
      | cons n ns =>
        cases ho
        rw [of_intsOf e] at r
        have ev := r.of_ints
        subst ev
        exact .inr (.inr ⟨a, n, ns, rfl, .inr t.sq, q _ _ (Grow.refl H) (.int _)⟩)
  · cases ho
theorem foldl_max_mem : ∀ (r : List Int) (n : Int), r.foldl max n ∈ n :: r ∧ ∀ y ∈ n :: r, y ≤ r.foldl max n
  | [], n => ⟨by simp, by simp⟩
  | m :: r, n => by
    obtain ⟨h1, h2⟩ := foldl_max_mem r (max n m)
    rw [List.foldl_cons]
    refine ⟨?_, fun y hy => ?_⟩
    · rcases List.mem_cons.mp h1 with e | e
      · rw [e]; rcases Int.le_total n m with z | z
        · rw [Int.max_eq_right z]; simp
        · rw [Int.max_eq_left z]; simp
      · exact List.mem_cons_of_mem _ (List.mem_cons_of_mem _ e)
    · have h3 := h2 (max n m) List.mem_cons_self
      rcases List.mem_cons.mp hy with e | hy
      · omega
      · rcases List.mem_cons.mp hy with e | hy
        · omega
        · exact h2 y (List.mem_cons_of_mem _ hy)
theorem foldl_min_mem : ∀ (r : List Int) (n : Int), r.foldl min n ∈ n :: r ∧ ∀ y ∈ n :: r, r.foldl min n ≤ y
  | [], n => ⟨by simp, by simp⟩
  | m :: r, n => by
    obtain ⟨h1, h2⟩ := foldl_min_mem r (min n m)
    rw [List.foldl_cons]
    refine ⟨?_, fun y hy => ?_⟩
    · rcases List.mem_cons.mp h1 with e | e
      · rw [e]; rcases Int.le_total n m with z | z
        · rw [Int.min_eq_left z]; simp
        · rw [Int.min_eq_right z]; simp
      · exact List.mem_cons_of_mem _ (List.mem_cons_of_mem _ e)
    · have h3 := h2 (min n m) List.mem_cons_self
      rcases List.mem_cons.mp hy with e | hy
      · omega
      · rcases List.mem_cons.mp hy with e | hy
        · omega
        · exact h2 y (List.mem_cons_of_mem _ hy)
end
theorem ct_len : CallT lenF := fun ds d h => by unfold lenF at h; split at h <;> first | rfl | cases h
theorem ct_abs : CallT absF := fun ds d h => by unfold absF at h; split at h <;> first | rfl | cases h
theorem ct_sum : CallT sumF := fun ds d h => by unfold sumF at h; split at h <;> first | rfl | cases h
theorem ct_all : CallT allF := fun ds d h => by unfold allF at h; split at h <;> first | rfl | cases h
theorem ct_tup : CallT tupF := fun ds d h => by unfold tupF at h; split at h <;> first | rfl | cases h
theorem ct_lst : CallT lstF := fun ds d h => by unfold lstF at h; split at h <;> first | rfl | cases h
theorem ct_big {f : Int → Int → Int} : CallT (bigF f) := fun ds d h => by unfold bigF at h; split at h <;> first | rfl | cases h
theorem maxOf_eq (n : Int) : ∀ r : List Int, r.foldl max n = PySem.W.maxOf n r := fun r => by
  unfold PySem.W.maxOf
  congr 1
  funext a y
  show max a y = if decide (a < y) = true then y else a
  by_cases h : a < y
  · rw [decide_eq_true h, if_pos rfl, Int.max_eq_right (by omega)]
  · rw [decide_eq_false h, if_neg Bool.false_ne_true, Int.max_eq_left (by omega)]
theorem minOf_eq (n : Int) : ∀ r : List Int, r.foldl min n = PySem.W.minOf n r := fun r => by
  unfold PySem.W.minOf
  congr 1
  funext a y
  show min a y = if decide (y < a) = true then y else a
  by_cases h : y < a
  · rw [decide_eq_true h, if_pos rfl, Int.min_eq_right (by omega)]
  · rw [decide_eq_false h, if_neg Bool.false_ne_true, Int.min_eq_left (by omega)]
section
variable {X : Cx}
theorem call_maxM (hc : X.calm = true) (hu : X.A.units + 64 < cLine) : CallR X (.builtin "max") (rBig X.K max) := by
  intro pins s σ H xs us Q I r h
  rcases h with ⟨i, j, rfl, q⟩ | ⟨i, j, k, rfl, q⟩ | ⟨a, n, rr, rfl, hs, q⟩
  · refine call_max2 hc pins s σ H _ us Q I r ⟨i, j, rfl, ?_⟩
    have : (if j > i then j else i) = max i j := by split <;> omega
    rw [this]; exact q
  · refine call_max3Nu hc pins s σ H _ us Q I r ⟨.int i, .int j, .int k, .int (max (max i j) k), rfl, ?_, q⟩
    have e1 : nuMax2 (.int i) (.int j) = some (.int (max i j)) := by
      show (some (decide (i < j))).map (fun c => if c = true then V.int j else V.int i) = _
      by_cases h : i < j
      · rw [decide_eq_true h, Int.max_eq_right (by omega)]; rfl
      · rw [decide_eq_false h, Int.max_eq_left (by omega)]; rfl
    have e2 : nuMax2 (.int (max i j)) (.int k) = some (.int (max (max i j) k)) := by
      show (some (decide (max i j < k))).map (fun c => if c = true then V.int k else V.int (max i j)) = _
      by_cases h : max i j < k
      · rw [decide_eq_true h, Int.max_eq_right (a := max i j) (by omega)]; rfl
      · rw [decide_eq_false h, Int.max_eq_left (a := max i j) (by omega)]; rfl
    unfold nuMax3
    rw [e1]
    exact e2
  · rcases hs with hs | hs
    · refine cr_max hc pins s σ H _ us Q I r ⟨a, n :: rr, rfl, hs, by simp, fun m h1 h2 => ?_⟩
      obtain ⟨g1, g2⟩ := foldl_max_mem rr n
      have : m = rr.foldl max n := Int.le_antisymm (g2 m h1) (h2 _ g1)
      rw [this]; exact q
    · obtain ⟨its, rv, ht, _⟩ := I.tuple hs
      rw [Vals.ref1 r]
      refine PySem.W.max_tuple_datum (α := Int) (x := n) (xs := rr) (I.ok.hd hc) (show s.heap.IsTuple a its.toArray from ht) (PySem.W.HoldAll.of_ints (by simpa using rv.ints)) (by show X.A.units + 1 + 0 < cLine; omega) fun i v h' tk hv hh hk => ?_
      obtain ⟨tk', rfl⟩ := PySem.W.int_of_holds hh
      exact ⟨.int _, H, I.kept hk, ⟨_, rfl⟩, by rw [← maxOf_eq]; exact q⟩
theorem call_minM (hc : X.calm = true) (hu : X.A.units + 64 < cLine) : CallR X (.builtin "min") (rBig X.K min) := by
  intro pins s σ H xs us Q I r h
  rcases h with ⟨i, j, rfl, q⟩ | ⟨i, j, k, rfl, q⟩ | ⟨a, n, rr, rfl, hs, q⟩
  · refine call_min2 hc pins s σ H _ us Q I r ⟨i, j, rfl, ?_⟩
    have : (if j < i then j else i) = min i j := by split <;> omega
    rw [this]; exact q
  · refine call_min3Nu hc pins s σ H _ us Q I r ⟨.int i, .int j, .int k, .int (min (min i j) k), rfl, ?_, q⟩
    have e1 : nuMin2 (.int i) (.int j) = some (.int (min i j)) := by
      show (some (decide (j < i))).map (fun c => if c = true then V.int j else V.int i) = _
      by_cases h : j < i
      · rw [decide_eq_true h, Int.min_eq_right (by omega)]; rfl
      · rw [decide_eq_false h, Int.min_eq_left (by omega)]; rfl
    have e2 : nuMin2 (.int (min i j)) (.int k) = some (.int (min (min i j) k)) := by
      show (some (decide (k < min i j))).map (fun c => if c = true then V.int k else V.int (min i j)) = _
      by_cases h : k < min i j
      · rw [decide_eq_true h, Int.min_eq_right (a := min i j) (by omega)]; rfl
      · rw [decide_eq_false h, Int.min_eq_left (a := min i j) (by omega)]; rfl
    unfold nuMin3
    rw [e1]
    exact e2
  · rcases hs with hs | hs
    · refine cr_min hc pins s σ H _ us Q I r ⟨a, n :: rr, rfl, hs, by simp, fun m h1 h2 => ?_⟩
      obtain ⟨g1, g2⟩ := foldl_min_mem rr n
      have : m = rr.foldl min n := Int.le_antisymm (h2 _ g1) (g2 m h1)
      rw [this]; exact q
    · obtain ⟨its, rv, ht, _⟩ := I.tuple hs
      rw [Vals.ref1 r]
      refine PySem.W.min_tuple_datum (α := Int) (x := n) (xs := rr) (I.ok.hd hc) (show s.heap.IsTuple a its.toArray from ht) (PySem.W.HoldAll.of_ints (by simpa using rv.ints)) (by show X.A.units + 1 + 0 < cLine; omega) fun i v h' tk hv hh hk => ?_
      obtain ⟨tk', rfl⟩ := PySem.W.int_of_holds hh
      exact ⟨.int _, H, I.kept hk, ⟨_, rfl⟩, by rw [← minOf_eq]; exact q⟩
end
end Pm
namespace Pm
open PySem L2


def tyD : D → Option String
  | .non => some "NoneType"
  | .bl _ => some "bool"
  | .int _ => some "int"
  | .str _ => some "str"
  | .tup _ => some "tuple"
  | .lst _ => some "list"
  | .scr _ => some "list"
  | .dk _ => some "dict"
  | .dt _ => some "dict"
  | _ => none
def isiD (T : String) (d : D) : Option Bool := (tyD d).bind fun a => kitB a T
theorem k_ii : kitB "int" "int" = some true := by decide +kernel
theorem k_ib : kitB "int" "bool" = some false := by decide +kernel
theorem k_it : kitB "int" "tuple" = some false := by decide +kernel
theorem k_is : kitB "int" "str" = some false := by decide +kernel
theorem k_bi : kitB "bool" "int" = some true := by decide +kernel
theorem k_bb : kitB "bool" "bool" = some true := by decide +kernel
theorem k_bt : kitB "bool" "tuple" = some false := by decide +kernel
theorem k_bs : kitB "bool" "str" = some false := by decide +kernel
theorem k_ti : kitB "tuple" "int" = some false := by decide +kernel
theorem k_tb : kitB "tuple" "bool" = some false := by decide +kernel
theorem k_tt : kitB "tuple" "tuple" = some true := by decide +kernel
theorem k_ts : kitB "tuple" "str" = some false := by decide +kernel
theorem k_si : kitB "str" "int" = some false := by decide +kernel
theorem k_sb : kitB "str" "bool" = some false := by decide +kernel
theorem k_st : kitB "str" "tuple" = some false := by decide +kernel
theorem k_ss : kitB "str" "str" = some true := by decide +kernel
theorem k_ni : kitB "NoneType" "int" = some false := by decide +kernel
theorem k_nb : kitB "NoneType" "bool" = some false := by decide +kernel
theorem k_nt : kitB "NoneType" "tuple" = some false := by decide +kernel
theorem k_ns : kitB "NoneType" "str" = some false := by decide +kernel
theorem k_li : kitB "list" "int" = some false := by decide +kernel
theorem k_lb : kitB "list" "bool" = some false := by decide +kernel
theorem k_lt : kitB "list" "tuple" = some false := by decide +kernel
theorem k_ls : kitB "list" "str" = some false := by decide +kernel
def isiInt : D → Bool | .int _ => true | .bl _ => true | _ => false
def isiBool : D → Bool | .bl _ => true | _ => false
def isiTup : D → Bool | .tup _ => true | _ => false
def isiStr : D → Bool | .str _ => true | _ => false
def plainD : D → Bool | .non => true | .bl _ => true | .int _ => true | .str _ => true | .tup _ => true | .lst _ => true | .scr _ => true | _ => false
theorem isi_int {d : D} (h : plainD d = true) : isiD "int" d = some (isiInt d) := by cases d <;> first | exact k_ii | exact k_bi | exact k_ti | exact k_si | exact k_ni | exact k_li | cases h
theorem isi_bool {d : D} (h : plainD d = true) : isiD "bool" d = some (isiBool d) := by cases d <;> first | exact k_ib | exact k_bb | exact k_tb | exact k_sb | exact k_nb | exact k_lb | cases h
theorem isi_tup {d : D} (h : plainD d = true) : isiD "tuple" d = some (isiTup d) := by cases d <;> first | exact k_it | exact k_bt | exact k_tt | exact k_st | exact k_nt | exact k_lt | cases h
theorem isi_str {d : D} (h : plainD d = true) : isiD "str" d = some (isiStr d) := by cases d <;> first | exact k_is | exact k_bs | exact k_ts | exact k_ss | exact k_ns | exact k_ls | cases h

section
variable {K : PySem.W.Frag} {ws : Wa} {B : Addr → Prop} {H : Hp}
theorem ty_of {v : V} {d : D} {a : String} (h : DW K ws B H v d) (ht : tyD d = some a) : TyX K H v (.type a) := by
  cases d with
  | non => cases h; cases ht; exact .base .non
  | bl => cases h; cases ht; exact .base (.bl _)
  | int => cases h; cases ht; exact .base (.int _)
  | str => cases h; cases ht; exact .base (.str _)
  | tup l =>
    obtain ⟨_, a, vs, rfl, t, r⟩ := h
    cases ht
    rcases t with ⟨_, t⟩ | ⟨o, its, n, h1, h2, _⟩ | ⟨_, _, o, t⟩
    · exact .base (.tup t)
    · exact .kTuple h1 h2
    · exact .fTuple t
  | lst l =>
    obtain ⟨_, a, vs, rfl, t, r⟩ := h
    cases ht
    exact .base (.lst t)
  | scr l =>
    obtain ⟨a, rfl, t⟩ := h
    cases ht
    rcases t with (t | ⟨o, t⟩) | ⟨o, its, n, h1, h2, _⟩
    · exact .base (.lst t)
    · exact .base (.frz t)
    · exact .kList h1 h2
  | dk l =>
    obtain ⟨a, kvs, rfl, t, _⟩ := h
    cases ht
    exact .base (.dK t)
  | dt l =>
    obtain ⟨a, kvs, rfl, t, _⟩ := h
    cases ht
    exact .base (.dT t)
  | _ => cases ht
end

def rdb_isi {T : String} {d : D} {b : Bool} (h : isiD T d = some b) : rdb d = true := by cases d <;> first | rfl | cases h
def fIsi (T : String) (x : M D) : M D := x.bind fun d => (M.opt (isiD T d)).bind fun b => M.pure (.bl b)
section
variable {X : Cx} {Wx : WX} {a : Expr} {pos p p' : Pos}
theorem m_isi {T : String} {x : Str} {f : Dn} (ha : PRm X Wx a f) (hm : X.mg "isinstance" = none) (hT : PE X (.Name x p') (tC (.ty T))) (hg : Gl X "isinstance" := by rfl)
    (he : starEach (a :: [.Name x p']) X.env = (false, eval a X.env) :: starEach [.Name x p'] X.env := by rfl) (hpl : (backTo pos (starEach [.Name x p'] X.env)).any (·.1) = false := by rfl)
    (hs : starEach (.Name x p' :: []) X.env = (false, eval (.Name x p') X.env) :: starEach [] X.env := by rfl) : PEm X Wx (.Call (.Name "isinstance" p) [a, .Name x p'] [] pos) (fun sl => fIsi T (f sl)) := by
  refine (pe_callB call_isi hg hm (by decide +kernel) (pa_cons ha (pa_cons hT pa_nil hs) he) (by decide) (by decide) he hpl).mimp fun σ H Q ⟨ws, B0, sl, w, e, h⟩ => ?_
  refine ⟨ws, B0, sl, w, e, (runAt.bind h).mono fun ws1 s1 d H1 l1 e1 h1 v hv => ?_⟩
  cases q2 : isiD T d with
  | none => rw [q2] at h1; exact h1.elim
  | some b =>
    rw [q2] at h1
    cases q3 : tyD d with
    | none => simp [isiD, q3] at q2
    | some t =>
      have q4 : kitB t T = some b := by simpa [isiD, q3] using q2
      exact ⟨v, .ty T, .type t, .type T, b, rfl, .ty T, ty_of (e1.rv hv (rdb_isi q2)) q3, kit_ty q4, runAt.here e1 h1 _ (.bl b)⟩
end


abbrev Kn := Ls → M D
abbrev Sk := Kn → Kn → Kn → Ls → M D
section
variable (K : PySem.W.Frag) (mg : Str → Option Value) (Wx : WX) (ws : Wa) (B0 : Addr → Prop) (sl : Ls) (σ : L2.St) (H : Hp)
structure Ans (r : Rs D) (nx bk ct : Kn) (D0 : Ends) : Prop where
  nb : r ≠ .bad
  nx : ∀ σ' ws' sl' w' H', Le ws (Own sl σ) H ws' (Own sl' σ') H' → Env K ws' B0 sl' w' σ' H' → nx sl' w' = r → D0.nx σ' H'
  bk : ∀ σ' ws' sl' w' H', Le ws (Own sl σ) H ws' (Own sl' σ') H' → Env K ws' B0 sl' w' σ' H' → bk sl' w' = r → D0.bk σ' H'
  ct : ∀ σ' ws' sl' w' H', Le ws (Own sl σ) H ws' (Own sl' σ') H' → Env K ws' B0 sl' w' σ' H' → ct sl' w' = r → D0.ct σ' H'
  rt : ∀ d w', r = .ok d w' → ∀ σ' ws' sl' H' v, Le ws (Own sl σ) H ws' (Own sl' σ') H' → Env K ws' B0 sl' w' σ' H' → DR K ws' (fun a => ws'.has a ∨ B0 a) H' v d → D0.rt v H'
  ex : ∀ c w', r = .ex c w' → ∀ σ' ws' sl' H' C, mg c = some (.ref C) → Le ws (Own sl σ) H ws' (Own sl' σ') H' → Env K ws' B0 sl' w' σ' H' → Wx (.ref C) none σ' H'
end
def tS (K : PySem.W.Frag) (mg : Str → Option Value) (Wx : WX) (b : Sk) : TS := fun D0 σ H => ∃ ws B0 sl w nx bk ct, Env K ws B0 sl w σ H ∧ Ans K mg Wx ws B0 sl σ H (b nx bk ct sl w) nx bk ct D0
abbrev PSm (X : Cx) (Wx : WX) (st : Stmt) (b : Sk) : Prop := PS X st (tS X.K X.mg Wx b)
abbrev PSsm (X : Cx) (Wx : WX) (st : List Stmt) (b : Sk) : Prop := PSs X st (tS X.K X.mg Wx b)
section
variable {K : PySem.W.Frag} {mg : Str → Option Value} {Wx : WX} {ws ws1 : Wa} {B0 : Addr → Prop} {sl sl1 : Ls} {w w1 : W} {σ σ1 : L2.St} {H H1 : Hp} {r : Rs D} {nx bk ct : Kn} {D0 D1 : Ends}
theorem Ans.le (l : Le ws (Own sl σ) H ws1 (Own sl1 σ1) H1) (h : Ans K mg Wx ws B0 sl σ H r nx bk ct D0) : Ans K mg Wx ws1 B0 sl1 σ1 H1 r nx bk ct D0 where
  nb := h.nb
  nx := fun σ' ws' sl' w' H' l' => h.nx σ' ws' sl' w' H' (l.trans l')
  bk := fun σ' ws' sl' w' H' l' => h.bk σ' ws' sl' w' H' (l.trans l')
  ct := fun σ' ws' sl' w' H' l' => h.ct σ' ws' sl' w' H' (l.trans l')
  rt := fun d w' e σ' ws' sl' H' v l' => h.rt d w' e σ' ws' sl' H' v (l.trans l')
  ex := fun c w' e σ' ws' sl' H' C hC l' => h.ex c w' e σ' ws' sl' H' C hC (l.trans l')
theorem Ans.bind {α : Type} {m : M α} {g : α → M D} (h : Ans K mg Wx ws B0 sl σ H (M.bind m g w) nx bk ct D0) : runAt K mg Wx ws B0 sl σ H (m w) (fun ws' w' a H' => Ans K mg Wx ws' B0 sl σ H' (g a w') nx bk ct D0) := by
  unfold M.bind at h
  cases q : m w with
  | ok a w1 => rw [q] at h; exact fun ws1 H1 l1 e1 => Ans.le l1 h
  | ex c w1 => rw [q] at h; exact fun ws' H' C hc l e => h.ex c w1 rfl σ ws' sl H' C hc l e
  | bad => rw [q] at h; exact absurd rfl h.nb
theorem Ans.opt {α : Type} {o : Option α} {g : α → M D} (h : Ans K mg Wx ws B0 sl σ H (M.bind (M.opt o) g w) nx bk ct D0) : ∃ a, o = some a ∧ Ans K mg Wx ws B0 sl σ H (g a w) nx bk ct D0 := by
  cases o with
  | none => exact absurd rfl h.nb
  | some a => exact ⟨a, rfl, h⟩
end
section
variable {X : Cx} {Wx : WX} {st : Stmt} {rest : List Stmt} {e c : Expr} {pos : Pos} {b1 b2 : Sk}
theorem ms_nil : PSsm X Wx [] (fun nx _ _ sl => nx sl) := pss_nil.mimp fun D0 σ H ⟨ws, B0, sl, w, nx, bk, ct, e, h⟩ => h.nx σ ws sl w H (Le.refl _ _ _) e rfl
theorem ms_cons (h1 : PSm X Wx st b1) (h2 : PSsm X Wx rest b2) : PSsm X Wx (st :: rest) (fun nx bk ct sl => b1 (fun sl' => b2 nx bk ct sl') bk ct sl) := by
  refine (pss_cons h1 h2).mimp fun D0 σ H ⟨ws, B0, sl, w, nx, bk, ct, e, h⟩ => ?_
  exact ⟨ws, B0, sl, w, fun sl' => b2 nx bk ct sl', bk, ct, e, h.nb, fun σ' ws' sl' w' H' l' e' q => ⟨ws', B0, sl', w', nx, bk, ct, e', by rw [q]; exact h.le l'⟩, h.bk, h.ct, h.rt, h.ex⟩
theorem ms_one (h1 : PSm X Wx st b1) : PSsm X Wx [st] b1 := pss_one h1
theorem ms_break : PSm X Wx (.Break pos) (fun _ bk _ sl => bk sl) := ps_break.mimp fun D0 σ H ⟨ws, B0, sl, w, nx, bk, ct, e, h⟩ => h.bk σ ws sl w H (Le.refl _ _ _) e rfl
theorem ms_if {cf : Bn} {a b : List Stmt} (hc : PTm X Wx c cf) (ha : PSsm X Wx a b1) (hb : PSsm X Wx b b2) : PSm X Wx (.If c a b pos) (fun nx bk ct sl => fIf (cf sl) (b1 nx bk ct sl) (b2 nx bk ct sl)) := by
  refine (ps_if hc ha hb).mimp fun D0 σ H ⟨ws, B0, sl, w, nx, bk, ct, e, h⟩ => ?_
  refine ⟨ws, B0, sl, w, e, (Ans.bind h).mono fun ws1 w1 k H1 l1 e1 h1 => ?_⟩
  cases k with
  | true => exact ⟨ws1, B0, sl, w1, nx, bk, ct, e1, h1⟩
  | false => exact ⟨ws1, B0, sl, w1, nx, bk, ct, e1, h1⟩
theorem DR.ret {K : PySem.W.Frag} {ws : Wa} {B0 : Addr → Prop} {sl : Ls} {σ : L2.St} {H : Hp} {v : V} {d : D} (h : DR K ws (Bad ws B0 sl σ) H v d) : DR K ws (fun a => ws.has a ∨ B0 a) H v d :=
  h.keep ws.le_refl (fun _ _ e _ => e) fun a z => .inl (z.imp id fun q => .inl q)
theorem DRs.ret {K : PySem.W.Frag} {ws : Wa} {B0 : Addr → Prop} {sl : Ls} {σ : L2.St} {H : Hp} {v : List V} {d : List D} (h : DRs K ws (Bad ws B0 sl σ) H v d) : DRs K ws (fun a => ws.has a ∨ B0 a) H v d :=
  h.keep ws.le_refl (fun _ _ e _ => e) fun a z => .inl (z.imp id fun q => .inl q)
theorem RV.ret {K : PySem.W.Frag} {ws : Wa} {B0 : Addr → Prop} {sl : Ls} {w : W} {σ : L2.St} {H : Hp} {v : V} {d : D} (e : Env K ws B0 sl w σ H) (h : RV K ws B0 sl σ H v d) : DR K ws (fun a => ws.has a ∨ B0 a) H v d := by
  rcases h with ⟨i, h1, h2⟩ | h
  · obtain ⟨a, q1, q2, q3, q4⟩ := e.ow i d h1
    rw [h2] at q1
    cases q1
    have nb : ¬ (ws.has a ∨ B0 a) := fun z => z.elim q3 q4
    cases d <;> first
      | exact q2.elim
      | (obtain ⟨vs, p1, p2, p3⟩ := q2; exact .lst p2 nb p1 p3.ret)
      | (obtain ⟨vs, p1, p2, p3⟩ := q2; exact .dk nb p1 p2 p3.ret)
      | (obtain ⟨vs, p1, p2, p3⟩ := q2; exact .dt nb p1 p2 p3.ret)
  · exact h.ret
theorem ms_ret {f : Dn} (he : PRm X Wx e f) : PSm X Wx (.Return (some e) pos) (fun _ _ _ sl => f sl) := by
  refine (ps_ret he).mimp fun D0 σ H ⟨ws, B0, sl, w, nx, bk, ct, e, h⟩ => ?_
  refine ⟨ws, B0, sl, w, e, ?_⟩
  have h : Ans X.K X.mg Wx ws B0 sl σ H (f sl w) nx bk ct D0 := h
  cases q : f sl w with
  | bad => rw [q] at h; exact absurd rfl h.nb
  | ex c w1 => rw [q] at h; exact fun ws' H' C hc l e => h.ex c w1 rfl σ ws' sl H' C hc l e
  | ok d w1 =>
    rw [q] at h
    exact fun ws' H' l e' v hv => h.rt d w1 rfl σ ws' sl H' v l e' (hv.ret e')
theorem ms_expr {f : Dn} (he : PRm X Wx e f) (hs : swapsWith e none pos.line X.env = pure false := by rfl) : PSm X Wx (.Expr e pos) (fun nx _ _ sl => (f sl).bind fun _ => nx sl) := by
  refine (ps_expr he hs).mimp fun D0 σ H ⟨ws, B0, sl, w, nx, bk, ct, e, h⟩ => ?_
  exact ⟨ws, B0, sl, w, e, (Ans.bind h).mono fun ws1 w1 d H1 l1 e1 h1 v hv => h1.nx σ ws1 sl w1 H1 (Le.refl _ _ _) e1 rfl⟩
end
section
variable {K : PySem.W.Frag} {ws : Wa} {B0 : Addr → Prop} {sl : Ls} {w : W} {σ : L2.St} {H : Hp} {v : V} {d : D} {i : Nat}
theorem Env.put (e : Env K ws B0 sl w σ H) (hv : DR K ws (Bad ws B0 sl σ) H v d) : Le ws (Own sl σ) H ws (Own (sl.set i (.va d)) (σ.set i (some v))) H ∧ Env K ws B0 (sl.set i (.va d)) w (σ.set i (some v)) H := by
  have hO : ∀ a, Own (sl.set i (.va d)) (σ.set i (some v)) a → Own sl σ a := fun a ⟨j, dj, h1, h2⟩ => by
    rcases get_set h1 with ⟨_, z, _⟩ | ⟨n, h1⟩
    · cases z
    · rw [List.getElem?_set_ne (Ne.symm n)] at h2
      exact ⟨j, dj, h1, h2⟩
  have l : Le ws (Own sl σ) H ws (Own (sl.set i (.va d)) (σ.set i (some v))) H := ⟨ws.le_refl, fun _ h => .inl h, fun a h => .inl (hO a h), fun _ _ h _ _ => h, fun _ h => h⟩
  refine ⟨l, ⟨?_, e.wr, e.bx, e.dom, fun j dj hj => ?_, fun j dj hj => ?_, fun j k dj dk a hj hk ha hb => ?_⟩⟩
  · rw [List.length_set, List.length_set]; exact e.len
  · rcases get_set hj with ⟨rfl, z, hl⟩ | ⟨n, hj⟩
    · cases z
      exact ⟨v, by rw [List.getElem?_set_self (by rw [← e.len]; exact hl)], hv.le l⟩
    · obtain ⟨u, h1, h2⟩ := e.va j dj hj
      exact ⟨u, by rw [List.getElem?_set_ne (Ne.symm n)]; exact h1, h2.le l⟩
  · rcases get_set hj with ⟨rfl, z, hl⟩ | ⟨n, hj⟩
    · cases z
    · obtain ⟨a, h1, h2, h3⟩ := e.ow j dj hj
      refine ⟨a, by rw [List.getElem?_set_ne (Ne.symm n)]; exact h1, ?_, h3⟩
      cases dj <;> first
        | exact h2.elim
        | (obtain ⟨vs, r1, r2, r3⟩ := h2; exact ⟨vs, r1, r2, r3.le l⟩)
  · rcases get_set hj with ⟨rfl, z, _⟩ | ⟨n1, hj⟩
    · cases z
    · rcases get_set hk with ⟨rfl, z, _⟩ | ⟨n2, hk⟩
      · cases z
      · rw [List.getElem?_set_ne (Ne.symm n1)] at ha
        rw [List.getElem?_set_ne (Ne.symm n2)] at hb
        exact e.uq j k dj dk a hj hk ha hb
def ON (K : PySem.W.Frag) (ws : Wa) (B : Addr → Prop) (H : Hp) (o : HO) : D → Prop
  | .lst ds => ∃ vs, o = .lst vs ∧ ds.length ≤ sizeLine ∧ DRs K ws B H vs ds
  | .dk es => ∃ kvs, o = .dK kvs ∧ kvs.map (·.1) = es.map (·.1) ∧ DRs K ws B H (kvs.map (·.2)) (es.map (·.2))
  | .dt es => ∃ kvs, o = .dT kvs ∧ kvs.map (·.1) = es.map (·.1) ∧ DRs K ws B H (kvs.map (·.2)) (es.map (·.2))
  | _ => False
theorem Env.putOwn {p : Addr} {o : HO} (e : Env K ws B0 sl w σ H) (hp : H p = none) (ho : ON K ws (Bad ws B0 sl σ) H o d) :
    Le ws (Own sl σ) H ws (Own (sl.set i (.ow d)) (σ.set i (some (.ref p)))) (upd H p o) ∧ Env K ws B0 (sl.set i (.ow d)) w (σ.set i (some (.ref p))) (upd H p o) := by
  have g := Grow.new (o := o) hp
  have hO : ∀ a, Own (sl.set i (.ow d)) (σ.set i (some (.ref p))) a → Own sl σ a ∨ a = p := fun a ⟨j, dj, h1, h2⟩ => by
    rcases get_set h1 with ⟨rfl, z, hl⟩ | ⟨n, h1⟩
    · rw [List.getElem?_set_self (by rw [← e.len]; exact hl)] at h2
      cases h2; exact .inr rfl
    · rw [List.getElem?_set_ne (Ne.symm n)] at h2
      exact .inl ⟨j, dj, h1, h2⟩
  have l : Le ws (Own sl σ) H ws (Own (sl.set i (.ow d)) (σ.set i (some (.ref p)))) (upd H p o) :=
    ⟨ws.le_refl, fun _ h => .inl h, fun a h => (hO a h).imp id fun z => by rw [z]; exact hp, fun a u h _ _ => g a u h, g.ex⟩
  refine ⟨l, ⟨?_, e.wr.grow g, e.bx.keep e.dom (fun _ z => .inl z) (fun a o _ z => g a o z), fun a h z => e.dom a h (g.ex a z), fun j dj hj => ?_, fun j dj hj => ?_, fun j k dj dk a hj hk ha hb => ?_⟩⟩
  · rw [List.length_set, List.length_set]; exact e.len
  · rcases get_set hj with ⟨rfl, z, hl⟩ | ⟨n, hj⟩
    · cases z
    · obtain ⟨u, h1, h2⟩ := e.va j dj hj
      exact ⟨u, by rw [List.getElem?_set_ne (Ne.symm n)]; exact h1, h2.le l⟩
  · rcases get_set hj with ⟨rfl, z, hl⟩ | ⟨n, hj⟩
    · cases z
      refine ⟨p, by rw [List.getElem?_set_self (by rw [← e.len]; exact hl)], ?_, fun z => e.fresh hp (.inl z), fun z => e.fresh hp (.inr (.inl z))⟩
      cases d <;> first
        | exact ho.elim
        | (obtain ⟨vs, rfl, r2, r3⟩ := ho; exact ⟨vs, upd_same, r2, r3.le l⟩)
    · obtain ⟨a, h1, h2, h3⟩ := e.ow j dj hj
      refine ⟨a, by rw [List.getElem?_set_ne (Ne.symm n)]; exact h1, ?_, h3⟩
      cases dj <;> first
        | exact h2.elim
        | (obtain ⟨vs, r1, r2, r3⟩ := h2; exact ⟨vs, g _ _ r1, r2, r3.le l⟩)
  · have old : ∀ {q : Nat} {dq : D}, sl[q]? = some (.ow dq) → σ[q]? ≠ some (some (.ref p)) := fun {q dq} h1 h2 => e.fresh hp (.inr (.inr ⟨q, dq, h1, h2⟩))
    rcases get_set hj with ⟨rfl, z, hl⟩ | ⟨n1, hj'⟩
    · rw [List.getElem?_set_self (by rw [← e.len]; exact hl)] at ha
      cases ha
      rcases get_set hk with ⟨rfl, z, _⟩ | ⟨n2, hk'⟩
      · rfl
      · rw [List.getElem?_set_ne (Ne.symm n2)] at hb
        exact absurd hb (old hk')
    · rw [List.getElem?_set_ne (Ne.symm n1)] at ha
      rcases get_set hk with ⟨rfl, z, hl⟩ | ⟨n2, hk'⟩
      · rw [List.getElem?_set_self (by rw [← e.len]; exact hl)] at hb
        cases hb
        exact absurd ha (old hj')
      · rw [List.getElem?_set_ne (Ne.symm n2)] at hb
        exact e.uq j k dj dk a hj' hk' ha hb
end
end Pm
namespace Pm
open PySem L2


def tF (K : PySem.W.Frag) (mg : Str → Option Value) (Wx : WX) (f : Dn) : TE := fun σ H Q => ∃ ws B0 sl w, Env K ws B0 sl w σ H ∧ runAt K mg Wx ws B0 sl σ H (f sl w) fun ws' _ d H' => ∀ p o, H' p = none → ON K ws' (Bad ws' B0 sl σ) H' o d → Q (.ref p) (upd H' p o)
abbrev PFm (X : Cx) (Wx : WX) (e : Expr) (f : Dn) : Prop := PE X e (tF X.K X.mg Wx f)
section
variable {X : Cx} {Wx : WX} {e : Expr} {es : List Expr} {pos pos' : Pos} {x : Str} {i : Nat}
theorem mf_lst {n : Nat} {g : An} (h : PAm X Wx es g) (hn : Cnt n g) (hz : n ≤ 1000 := by decide) : PFm X Wx (.List es pos) (fun sl => fLst (g sl)) := by
  refine (pe_lst h).mimp fun σ H Q ⟨ws, B0, sl, w, e, h⟩ => ?_
  refine ⟨ws, B0, sl, w, e, ?_⟩
  have h1 := runAt.bind h
  cases q : g sl w with
  | bad => rw [q] at h1; exact h1
  | ex c w1 => rw [q] at h1; exact h1
  | ok ds w1 =>
    rw [q] at h1
    intro ws1 H1 l1 e1 vs hvs
    have h2 := h1 ws1 H1 l1 e1
    have hl := hvs.length
    have hz' : ds.length ≤ sizeLine := by rw [hn _ _ _ _ q]; exact Nat.le_trans hz (by decide)
    exact ⟨by omega, fun p hp => runAt.here e1 h2 p _ hp ⟨_, rfl, hz', hvs⟩⟩
theorem mf_dT : PFm X Wx (.Dict [] [] pos) (fun _ => M.pure (.dt [])) := by
  refine pe_dnewT.mimp fun σ H Q ⟨ws, B0, sl, w, e, h⟩ => ?_
  exact fun p hp => runAt.here e h p _ hp ⟨[], rfl, rfl, .nil⟩
theorem ms_own {f : Dn} (hN : X.N.Nodup) (hi : X.N[i]? = some x) (hx : Loc X.env.scope x) (he : PFm X Wx e f) (hs : swapsWith e (some (.Name x pos')) pos.line X.env = pure false := by rfl)
    (hf : X.fn x = true ∨ X.env.scope.names.lookup x = some .local := by first | exact .inl rfl | exact .inr rfl | assumption) : PSm X Wx (.Assign [.Name x pos'] e pos) (fun nx _ _ sl => (f sl).bind fun d => nx (sl.set i (.ow d))) := by
  refine (ps_set hN hi hx he hs hf).mimp fun D0 σ H ⟨ws, B0, sl, w, nx, bk, ct, e, h⟩ => ?_
  refine ⟨ws, B0, sl, w, e, (Ans.bind h).mono fun ws1 w1 d H1 l1 e1 h1 p o hp ho => ?_⟩
  obtain ⟨l2, e2⟩ := e1.putOwn (i := i) hp ho
  exact h1.nx _ _ _ _ _ l2 e2 rfl
theorem set_go {K : PySem.W.Frag} {mg : Str → Option Value} {f : Dn} (D0 : Ends) (σ : L2.St) (H : Hp) (h : tS K mg Wx (fun nx _ _ sl => (f sl).bind fun d => nx (sl.set i (.va d))) D0 σ H) : tAsg (tE K mg Wx f) (gName i) D0 σ H := by
  obtain ⟨ws, B0, sl, w, nx, bk, ct, e, h⟩ := h
  refine ⟨ws, B0, sl, w, e, (Ans.bind h).mono fun ws1 w1 d H1 l1 e1 h1 v hv => ?_⟩
  obtain ⟨l3, e3⟩ := e1.put (i := i) hv
  exact h1.nx _ _ _ _ _ l3 e3 rfl
theorem ms_set {f : Dn} (hN : X.N.Nodup) (hi : X.N[i]? = some x) (hx : Loc X.env.scope x) (he : PEm X Wx e f) (hs : swapsWith e (some (.Name x pos')) pos.line X.env = pure false := by rfl)
    (hf : X.fn x = true ∨ X.env.scope.names.lookup x = some .local := by first | exact .inl rfl | exact .inr rfl | assumption) : PSm X Wx (.Assign [.Name x pos'] e pos) (fun nx _ _ sl => (f sl).bind fun d => nx (sl.set i (.va d))) :=
  (ps_set hN hi hx he hs hf).mimp fun D0 σ H h => set_go D0 σ H h
end


section
variable {K : PySem.W.Frag} {ws : Wa} {B0 : Addr → Prop} {sl : Ls} {w : W} {σ : L2.St} {H : Hp} {v : V} {d d' : D} {i : Nat} {a p : Addr} {o : HO}
theorem OO.le {ws' : Wa} {sl' : Ls} {σ' : L2.St} {H' : Hp} {b : Addr} {dj : D} (l : Le ws (Own sl σ) H ws' (Own sl' σ') H') (hb : ∀ o, H b = some o → H' b = some o) (h : OO K ws (Bad ws B0 sl σ) H b dj) : OO K ws' (Bad ws' B0 sl' σ') H' b dj := by
  cases dj <;> first
    | exact h.elim
    | (obtain ⟨vs, r1, r2, r3⟩ := h; exact ⟨vs, hb _ r1, r2, r3.le l⟩)
theorem ON.le {ws' : Wa} {sl' : Ls} {σ' : L2.St} {H' : Hp} (l : Le ws (Own sl σ) H ws' (Own sl' σ') H') (h : ON K ws (Bad ws B0 sl σ) H o d) : ON K ws' (Bad ws' B0 sl' σ') H' o d := by
  cases d <;> first
    | exact h.elim
    | (obtain ⟨vs, r1, r2, r3⟩ := h; exact ⟨vs, r1, r2, r3.le l⟩)
theorem ON.oo {B : Addr → Prop} (e : H a = some o) (h : ON K ws B H o d) : OO K ws B H a d := by
  cases d <;> first
    | exact h.elim
    | (obtain ⟨vs, rfl, r2, r3⟩ := h; exact ⟨vs, e, r2, r3⟩)
theorem Env.mutOwn (e : Env K ws B0 sl w σ H) (hi : sl[i]? = some (.ow d)) (ha : σ[i]? = some (some (.ref a))) (ho : ON K ws (Bad ws B0 sl σ) H o d') :
    Le ws (Own sl σ) H ws (Own (sl.set i (.ow d')) σ) (upd H a o) ∧ Env K ws B0 (sl.set i (.ow d')) w σ (upd H a o) := by
  have hil : i < sl.length := (List.getElem?_eq_some_iff.mp hi).1
  have hO : ∀ b, Own (sl.set i (.ow d')) σ b → Own sl σ b := fun b ⟨j, dj, h1, h2⟩ => by
    rcases get_set h1 with ⟨rfl, z, hl⟩ | ⟨n, h1⟩
    · exact ⟨j, d, hi, h2⟩
    · exact ⟨j, dj, h1, h2⟩
  have hOa : Own sl σ a := ⟨i, d, hi, ha⟩
  obtain ⟨a', q1, q2, q3, q4⟩ := e.ow i d hi
  rw [ha] at q1
  cases q1
  have l : Le ws (Own sl σ) H ws (Own (sl.set i (.ow d')) σ) (upd H a o) := by
    refine ⟨ws.le_refl, fun _ h => .inl h, fun b h => .inl (hO b h), fun b u h _ n => ?_, fun b h => ?_⟩
    · rw [upd_ne (fun z => n (by rw [z]; exact hOa))]; exact h
    · by_cases z : b = a
      · subst z; rw [upd_same] at h; cases h
      · rw [upd_ne z] at h; exact h
  have ne : ∀ {b : Addr}, ¬ Own sl σ b → b ≠ a := fun n z => n (by rw [z]; exact hOa)
  refine ⟨l, ⟨by rw [List.length_set]; exact e.len, ?_, e.bx.keep e.dom (fun _ z => .inl z) (fun b u hb z => by rw [upd_ne (fun q => q4 (by rw [← q]; exact hb))]; exact z), fun b h z => e.dom b h (l.ex b z), fun j dj hj => ?_, fun j dj hj => ?_, fun j k dj dk b hj hk hb hc => ?_⟩⟩
  · exact e.wr.upd q3 q2.nx
  · rcases get_set hj with ⟨rfl, z, hl⟩ | ⟨n, hj⟩
    · cases z
    · obtain ⟨u, h1, h2⟩ := e.va j dj hj
      exact ⟨u, h1, h2.le l⟩
  · rcases get_set hj with ⟨rfl, z, hl⟩ | ⟨n, hj⟩
    · cases z
      exact ⟨a, ha, (ho.le l).oo upd_same, q3, q4⟩
    · obtain ⟨b, h1, h2, h3⟩ := e.ow j dj hj
      refine ⟨b, h1, h2.le l fun u hu => ?_, h3⟩
      rw [upd_ne (fun z => n (e.uq j i dj d a hj hi (by rw [← z]; exact h1) ha))]
      exact hu
  · have back : ∀ {q : Nat} {dq : D}, (sl.set i (.ow d'))[q]? = some (.ow dq) → ∃ dr, sl[q]? = some (.ow dr) := fun {q dq} h => by
      rcases get_set h with ⟨rfl, z, hl⟩ | ⟨n, h⟩
      · exact ⟨d, hi⟩
      · exact ⟨dq, h⟩
    obtain ⟨r1, z1⟩ := back hj
    obtain ⟨r2, z2⟩ := back hk
    exact e.uq j k r1 r2 b z1 z2 hb hc
theorem Env.mkTown (e : Env K ws B0 sl w σ H) (q : w.town = none) (hp : H p = none) :
    Le ws (Own sl σ) H ⟨some p, ws.tabs, ws.ob⟩ (Own sl σ) (upd H p (.lst [])) ∧ Env K ⟨some p, ws.tabs, ws.ob⟩ B0 sl ⟨some [], w.objs⟩ σ (upd H p (.lst [])) := by
  obtain ⟨hw, hwt, hwo⟩ := e.wr
  unfold TW at hw
  rw [q] at hw
  cases qa : ws.town with
  | some t => rw [qa] at hw; exact hw.elim
  | none =>
    have g := Grow.new (o := .lst []) hp
    have l : Le ws (Own sl σ) H ⟨some p, ws.tabs, ws.ob⟩ (Own sl σ) (upd H p (.lst [])) := by
      refine ⟨⟨fun a z => ?_, fun _ _ b z => ⟨b, z⟩⟩, fun a z => ?_, fun a z => .inl z, fun a o z _ _ => g a o z, g.ex⟩
      · rw [qa] at z; cases z
      · rcases z with z | z
        · cases z; exact .inr hp
        · exact .inl (.inr z)
    refine ⟨l, ⟨e.len, ?_, e.bx.keep e.dom l.new (fun a o _ z => g a o z), fun a h z => e.dom a h (g.ex a z), fun j dj hj => ?_, fun j dj hj => ?_, e.uq⟩⟩
    · have hg := hwo.grow g
      exact ⟨show upd H p (.lst []) p = some _ from upd_same, hwt.grow g, ⟨hg.len, hg.live, hg.dead, hg.nd, fun a z y => by
        rcases hwo.lv_lst z with ⟨vs, q1⟩ | ⟨_, _, _, q1⟩ | ⟨_, q1⟩ <;> (cases y; rw [hp] at q1; cases q1)⟩⟩
    · obtain ⟨u, h1, h2⟩ := e.va j dj hj
      exact ⟨u, h1, h2.le l⟩
    · obtain ⟨b, h1, h2, h3, h4⟩ := e.ow j dj hj
      refine ⟨b, h1, h2.le l fun u hu => g _ _ hu, fun z => ?_, h4⟩
      rcases z with z | z
      · cases z
        exact h2.there hp
      · exact h3 (.inr z)
theorem Env.mutTown {l l' : List Int} (e : Env K ws B0 sl w σ H) (q : w.town = some l) (ht : ws.town = some a) :
    Le ws (Own sl σ) H ws (Own sl σ) (upd H a (.lst (l'.map V.int))) ∧ Env K ws B0 sl ⟨some l', w.objs⟩ σ (upd H a (.lst (l'.map V.int))) := by
  have ex : ∀ b, upd H a (.lst (l'.map V.int)) b = none → H b = none := fun b h => by
    by_cases z : b = a
    · subst z; rw [upd_same] at h; cases h
    · rw [upd_ne z] at h; exact h
  have le : Le ws (Own sl σ) H ws (Own sl σ) (upd H a (.lst (l'.map V.int))) := by
    refine ⟨ws.le_refl, fun _ h => .inl h, fun _ h => .inl h, fun b u h n _ => ?_, ex⟩
    rw [upd_ne (fun z => n (by rw [z]; exact .inl ht))]; exact h
  have hwr := e.wr
  have hta : H a = some (.lst (l.map V.int)) := by
    have hw := hwr.1
    unfold TW at hw
    rw [q, ht] at hw
    exact hw
  refine ⟨le, ⟨e.len, ?_, e.bx.keep e.dom (fun _ z => .inl z) (fun b u hb z => by rw [upd_ne (fun q => (e.bx b hb).1 (.inl (by rw [q]; exact ht)))]; exact z), fun b h z => e.dom b h (ex b z), fun j dj hj => ?_, fun j dj hj => ?_, e.uq⟩⟩
  · refine ⟨?_, ⟨hwr.2.1, fun p hp => ?_⟩, OB.same (w := w) rfl (hwr.3.keep (fun b xs z => rd_upd (by rw [hta]; trivial) z) fun b o z l => by rw [upd_ne (fun q => hwr.3.nt b l (by rw [q]; exact ht))]; exact z)⟩
    · unfold TW
      simp only [ht]
      exact upd_same
    · obtain ⟨ps, h1, h2, h3⟩ := hwr.2.2 p hp
      refine ⟨ps, by rw [upd_ne (fun z => by rw [z, hta] at h1; cases h1)]; exact h1, h2, fun pos cv ec => ?_⟩
      obtain ⟨c, e1, e2⟩ := h3 pos cv ec
      exact ⟨c, e1, by rw [upd_ne (fun z => by rw [z, hta] at e2; cases e2)]; exact e2⟩
  · obtain ⟨u, h1, h2⟩ := e.va j dj hj
    exact ⟨u, h1, h2.le le⟩
  · obtain ⟨b, h1, h2, h3, h4⟩ := e.ow j dj hj
    refine ⟨b, h1, h2.le le fun u hu => ?_, h3, h4⟩
    rw [upd_ne (fun z => h3 (by rw [z]; exact .inl ht))]
    exact hu
end
end Pm
namespace Pm
open PySem PySem.Spec PyProof.Rows L2


def nOwK (i : Nat) (sl : Ls) (k : D → M D) : M D := match sl[i]? with
  | some (.ow o) => k o
  | _ => M.bad
def lstD : D → Option (List D)
  | .lst l => some l
  | _ => none
def appL (l : List D) (a : D) : Option D := if l.length < sizeLine then some (.lst (l ++ [a])) else none
def fApp (o : D) (x : M D) : M D := (M.opt (lstD o)).bind fun l => x.bind fun a => M.opt (appL l a)
def extL (l : List D) (a : D) : Option D := match a with
  | .lst m => if l.length + m.length ≤ sizeLine then some (.lst (l ++ m)) else none
  | _ => none
def fExt (o : D) (x : M D) : M D := (M.opt (lstD o)).bind fun l => x.bind fun a => M.opt (extL l a)
section
variable {X : Cx} {Wx : WX} {o e : Expr} {es : List Expr} {pos np apos cpos : Pos} {x : Str} {i : Nat} {f : Dn}
theorem nOwK_of {K : PySem.W.Frag} {mg : Str → Option Value} {ws : Wa} {B0 : Addr → Prop} {sl : Ls} {w : W} {σ : L2.St} {H : Hp} {nx bk ct : Kn} {D0 : Ends} {k : D → M D} (h : Ans K mg Wx ws B0 sl σ H (nOwK i sl k w) nx bk ct D0) : ∃ d, sl[i]? = some (.ow d) ∧ Ans K mg Wx ws B0 sl σ H (k d w) nx bk ct D0 := by
  unfold nOwK at h
  cases q : sl[i]? with
  | none => rw [q] at h; exact absurd rfl h.nb
  | some z =>
    rw [q] at h
    cases z with
    | no => exact absurd rfl h.nb
    | va d => exact absurd rfl h.nb
    | ow d => exact ⟨d, rfl, h⟩
theorem ms_act {m : Str} {id : String} {r : V → List V → Hp → VK → Prop} {op : List D → D → Option D} (i : Nat) (slot : Slot "list" m id) (hty : typeOf (.builtin id) = pure (.type "method_descriptor")) (hm : MtR X id r)
    (hop : ∀ {ws : Wa} {B : Addr → Prop} {H : Hp} {a : Addr} {vs : List V} {y : V} {l : List D} {d o' : D} {Q : VK}, H a = some (.lst vs) → DRs X.K ws B H vs l → DR X.K ws B H y d → op l d = some o' → (∀ o, ON X.K ws B H o o' → Q .non (upd H a o)) → r (.ref a) [y] H Q)
    (he : PEm X Wx e f) (hN : X.N[i]? = some x) (hv : Vis X.env.scope x) (hd : (x == ("__debug__" : Str)) = false)
    (hcd : (x == ("__classdict__" : Str)) = false) (hbase : attributeBase (.Name x np) m X.env (eval (.Name x np) X.env) = eval (.Name x np) X.env)
    (hfew : ((backTo cpos (starEach (e :: []) X.env)).all (fun x => !x.1) && (backToKw cpos (keywordEach [] X.env)).all (fun x => x.1.isSome)
      && decide ((e :: ([] : List Expr)).length + ([] : List Keyword).length + (if ([] : List Keyword).isEmpty then 0 else 1) < 30)) = true)
    (hline : (apos.endLine == cpos.line) = true) (hs : starEach (e :: []) X.env = (false, eval e X.env) :: starEach [] X.env) (hplain : (backTo cpos (starEach [] X.env)).any (·.1) = false)
    (hsw : swapsWith (.Call (.Attribute (.Name x np) m apos) [e] [] cpos) none pos.line X.env = pure false) :
    PSm X Wx (.Expr (.Call (.Attribute (.Name x np) m apos) [e] [] cpos) pos) (fun nx _ _ sl => nOwK i sl fun o => ((M.opt (lstD o)).bind fun l => (f sl).bind fun a => M.opt (op l a)).bind fun o' => nx (sl.set i (.ow o'))) := by
  refine (ps_expr (pe_bm PySem.F.plainAttrs_list slot hty hm (pe_var hN hv hd hcd) (pa_cons he pa_nil hs) hbase hfew hline hs hplain) hsw).mimp fun D0 σ H ⟨ws, B0, sl, w, nx, bk, ct, e, h⟩ => ?_
  obtain ⟨d, hd, h2⟩ := nOwK_of h
  rw [bind_assoc] at h2
  obtain ⟨l, hl, h3⟩ := Ans.opt h2
  rw [bind_assoc] at h3
  clear h h2
  cases d <;> first | (cases hl; done) | skip
  cases hl
  obtain ⟨a, q1, ⟨vs, q2, q3, q4⟩, q5⟩ := e.ow i _ hd
  refine ⟨_, q1, .inl ⟨rfl, vs, .inl (.inl q2)⟩, ws, B0, sl, w, e, (Ans.bind h3).mono fun ws1 w1 b H1 l1 e1 h1 v hv => ?_⟩
  obtain ⟨o', ho, h1⟩ := Ans.opt h1
  obtain ⟨a', p1, ⟨us, p2, p3, p4⟩, p5⟩ := e1.ow i _ hd
  rw [q1] at p1
  cases p1
  refine hop p2 p4 hv ho fun o hO => ?_
  obtain ⟨l2, e2⟩ := e1.mutOwn hd q1 hO
  exact h1.nx _ _ _ _ _ l2 e2 rfl
theorem ms_app (i : Nat) (he : PEm X Wx e f) (hN : X.N[i]? = some x := by rfl) (hv : Vis X.env.scope x := by first | exact Or.inl rfl | exact Or.inr (Or.inl rfl) | exact Or.inr (Or.inr rfl)) (hd : (x == ("__debug__" : Str)) = false := by decide)
    (hcd : (x == ("__classdict__" : Str)) = false := by decide) (hbase : attributeBase (.Name x np) "append" X.env (eval (.Name x np) X.env) = eval (.Name x np) X.env := by rfl)
    (hfew : ((backTo cpos (starEach (e :: []) X.env)).all (fun x => !x.1) && (backToKw cpos (keywordEach [] X.env)).all (fun x => x.1.isSome)
      && decide ((e :: ([] : List Expr)).length + ([] : List Keyword).length + (if ([] : List Keyword).isEmpty then 0 else 1) < 30)) = true := by rfl)
    (hline : (apos.endLine == cpos.line) = true := by rfl) (hs : starEach (e :: []) X.env = (false, eval e X.env) :: starEach [] X.env := by rfl) (hplain : (backTo cpos (starEach [] X.env)).any (·.1) = false := by rfl)
    (hsw : swapsWith (.Call (.Attribute (.Name x np) "append" apos) [e] [] cpos) none pos.line X.env = pure false := by rfl) :
    PSm X Wx (.Expr (.Call (.Attribute (.Name x np) "append" apos) [e] [] cpos) pos) (fun nx _ _ sl => nOwK i sl fun o => (fApp o (f sl)).bind fun o' => nx (sl.set i (.ow o'))) :=
  ms_act (op := appL) i PySem.F.slot_list_append PySem.F.type_list_append mt_append (fun {ws B H a vs y l d o' Q} p2 p4 hv ho q => by
    unfold appL at ho
    split at ho
    · rename_i hz
      cases ho
      have hl := p4.length
      exact ⟨a, vs, y, rfl, rfl, p2, by omega, q _ ⟨_, rfl, by simp; omega, p4.append (.one hv)⟩⟩
    · cases ho) he hN hv hd hcd hbase hfew hline hs hplain hsw

def setL (l : List D) (k v : D) : Option D := match k with
  | .int j => (ixN l.length j).map fun n => .lst (l.set n v)
  | _ => none
def fSetI (o : D) (k : M D) (v : D) : M D := (M.opt (lstD o)).bind fun l => k.bind fun j => M.opt (setL l j v)

def iaddD : D → D → Option D
  | .int i, .int j => some (.int (i + j))
  | _, _ => none
def nVaK (i : Nat) (sl : Ls) (k : D → M D) : M D := match sl[i]? with
  | some (.va o) => k o
  | _ => M.bad
theorem nVaK_of {K : PySem.W.Frag} {mg : Str → Option Value} {ws : Wa} {B0 : Addr → Prop} {sl : Ls} {w : W} {σ : L2.St} {H : Hp} {nx bk ct : Kn} {D0 : Ends} {k : D → M D} (h : Ans K mg Wx ws B0 sl σ H (nVaK i sl k w) nx bk ct D0) : ∃ d, sl[i]? = some (.va d) ∧ Ans K mg Wx ws B0 sl σ H (k d w) nx bk ct D0 := by
  unfold nVaK at h
  cases q : sl[i]? with
  | none => rw [q] at h; exact absurd rfl h.nb
  | some z =>
    rw [q] at h
    cases z with
    | no => exact absurd rfl h.nb
    | ow d => exact absurd rfl h.nb
    | va d => exact ⟨d, rfl, h⟩
theorem ms_aug {pos' : Pos} (i : Nat) (hN : X.N.Nodup) (he : PEm X Wx e f) (hi : X.N[i]? = some x := by rfl) (hx : L2.Loc X.env.scope x := by first | exact Or.inl rfl | exact Or.inr rfl)
    (hf : X.fn x = true ∨ X.env.scope.names.lookup x = some .local := by first | exact .inl rfl | exact .inr rfl) :
    PSm X Wx (.AugAssign (.Name x pos') .Add e pos) (fun nx _ _ sl => nVaK i sl fun a => (fBin iaddD (M.pure a) (f sl)).bind fun z => nx (sl.set i (.va z))) := by
  refine (ps_aug hN hi hx he ip_add hf).mimp fun D0 σ H ⟨ws, B0, sl, w, nx, bk, ct, e, q⟩ => ?_
  obtain ⟨d, hd, q⟩ := nVaK_of q
  unfold fBin at q
  rw [pure_bind, bind_assoc] at q
  obtain ⟨v, h1, h2⟩ := e.va i d hd
  refine ⟨v, h1, ws, B0, sl, w, e, (Ans.bind q).mono fun ws1 w1 y H1 l1 e1 q1 u hu => ?_⟩
  obtain ⟨z, hz, q1⟩ := Ans.opt q1
  have hv1 := h2.le l1
  cases d <;> cases y <;> first
    | (cases hz; done)
    | (cases hv1; cases hu
       cases hz
       obtain ⟨l2, e2⟩ := e1.put (i := i) (v := .int _) (d := .int _) (.int _)
       exact ⟨_, _, rfl, rfl, q1.nx _ _ _ _ _ l2 e2 rfl⟩)
end


def frz (i : Nat) (sl : Ls) : Ls := match sl[i]? with
  | some (.ow d) => sl.set i (.va d)
  | _ => sl
def setNo : List Nat → Ls → Ls
  | [], sl => sl
  | j :: js, sl => setNo js (sl.set j .no)
section
variable {K : PySem.W.Frag} {ws : Wa} {B0 : Addr → Prop} {sl : Ls} {w : W} {σ : L2.St} {H : Hp} {i : Nat}
theorem Env.drop1 (e : Env K ws B0 sl w σ H) : Le ws (Own sl σ) H ws (Own (sl.set i .no) σ) H ∧ Env K ws B0 (sl.set i .no) w σ H := by
  have hO : ∀ b, Own (sl.set i .no) σ b → Own sl σ b := fun b ⟨j, dj, hj, hb⟩ => by
    rcases get_set hj with ⟨_, z, _⟩ | ⟨_, z⟩
    · cases z
    · exact ⟨j, dj, z, hb⟩
  have l : Le ws (Own sl σ) H ws (Own (sl.set i .no) σ) H := ⟨ws.le_refl, fun _ h => .inl h, fun b h => .inl (hO b h), fun _ _ h _ _ => h, fun _ h => h⟩
  refine ⟨l, ⟨by rw [List.length_set]; exact e.len, e.wr, e.bx, e.dom, fun j dj hj => ?_, fun j dj hj => ?_, fun j k dj dk b hj hk hb hc => ?_⟩⟩
  · rcases get_set hj with ⟨rfl, z, _⟩ | ⟨_, z⟩
    · cases z
    · obtain ⟨u, q1, q2⟩ := e.va j dj z
      exact ⟨u, q1, q2.le l⟩
  · rcases get_set hj with ⟨rfl, z, _⟩ | ⟨_, z⟩
    · cases z
    · obtain ⟨b, q1, q2, q3⟩ := e.ow j dj z
      exact ⟨b, q1, q2.le l fun _ z => z, q3⟩
  · rcases get_set hj with ⟨rfl, z, _⟩ | ⟨_, z1⟩
    · cases z
    · rcases get_set hk with ⟨rfl, z, _⟩ | ⟨_, z2⟩
      · cases z
      · exact e.uq j k dj dk b z1 z2 hb hc
theorem Env.dropAll : ∀ (js : List Nat) {sl : Ls}, Env K ws B0 sl w σ H → Le ws (Own sl σ) H ws (Own (setNo js sl) σ) H ∧ Env K ws B0 (setNo js sl) w σ H
  | [], sl, e => ⟨Le.refl _ _ _, e⟩
  | j :: js, sl, e => by
    obtain ⟨l1, e1⟩ := e.drop1 (i := j)
    obtain ⟨l2, e2⟩ := Env.dropAll js e1
    exact ⟨l1.trans l2, e2⟩
theorem Env.frz (e : Env K ws B0 sl w σ H) : Le ws (Own sl σ) H ws (Own (Pm.frz i sl) σ) H ∧ Env K ws B0 (Pm.frz i sl) w σ H := by
  unfold Pm.frz
  split
  · rename_i d q
    obtain ⟨a, h1, h2, h3, h4⟩ := e.ow i d q
    have hO : ∀ b, Own (sl.set i (.va d)) σ b → Own sl σ b := fun b ⟨j, dj, hj, hb⟩ => by
      rcases get_set hj with ⟨_, z, _⟩ | ⟨_, z⟩
      · cases z
      · exact ⟨j, dj, z, hb⟩
    have l : Le ws (Own sl σ) H ws (Own (sl.set i (.va d)) σ) H := ⟨ws.le_refl, fun _ h => .inl h, fun b h => .inl (hO b h), fun _ _ h _ _ => h, fun _ h => h⟩
    have na : ¬ Bad ws B0 (sl.set i (.va d)) σ a := fun z => by
      rcases z with z | z | ⟨j, dj, hj, hb⟩
      · exact h3 z
      · exact h4 z
      · rcases get_set hj with ⟨_, z, _⟩ | ⟨n, z⟩
        · cases z
        · exact n (e.uq j i dj d a z q hb h1)
    have hD : DR K ws (Bad ws B0 (sl.set i (.va d)) σ) H (.ref a) d := by
      cases d <;> first
        | exact h2.elim
        | (obtain ⟨vs, q1, q2, q3⟩ := h2; exact .lst q2 na q1 (q3.le l))
        | (obtain ⟨vs, q1, q2, q3⟩ := h2; exact .dk na q1 q2 (q3.le l))
        | (obtain ⟨vs, q1, q2, q3⟩ := h2; exact .dt na q1 q2 (q3.le l))
    refine ⟨l, ⟨by rw [List.length_set]; exact e.len, e.wr, e.bx, e.dom, fun j dj hj => ?_, fun j dj hj => ?_, fun j k dj dk b hj hk hb hc => ?_⟩⟩
    · rcases get_set hj with ⟨rfl, z, _⟩ | ⟨_, z⟩
      · cases z; exact ⟨_, h1, hD⟩
      · obtain ⟨u, q1, q2⟩ := e.va j dj z
        exact ⟨u, q1, q2.le l⟩
    · rcases get_set hj with ⟨rfl, z, _⟩ | ⟨_, z⟩
      · cases z
      · obtain ⟨b, q1, q2, q3⟩ := e.ow j dj z
        exact ⟨b, q1, q2.le l fun _ z => z, q3⟩
    · rcases get_set hj with ⟨rfl, z, _⟩ | ⟨_, z1⟩
      · cases z
      · rcases get_set hk with ⟨rfl, z, _⟩ | ⟨_, z2⟩
        · cases z
        · exact e.uq j k dj dk b z1 z2 hb hc
  · exact ⟨Le.refl _ _ _, e⟩
end
theorem ms_frz {X : Cx} {Wx : WX} {st : List Stmt} {b : Sk} (i : Nat) (h : PSsm X Wx st b) : PSsm X Wx st (fun nx bk ct sl => b nx bk ct (frz i sl)) := by
  refine h.mimp fun D0 σ H ⟨ws, B0, sl, w, nx, bk, ct, e, h⟩ => ?_
  obtain ⟨l1, e1⟩ := e.frz (i := i)
  exact ⟨ws, B0, frz i sl, w, nx, bk, ct, e1, h.le l1⟩

abbrev Mf := List D → M D
abbrev Post (ws : Wa) (H : Hp) (ws' : Wa) (H' : Hp) : Prop := Le ws (fun _ => False) H ws' (fun _ => False) H'
def spF (K : PySem.W.Frag) (mg : Str → Option Value) (n : Nat) (m : Mf) : Sp := fun vs H Q E => vs.length = n ∧ ∃ (ws : Wa) (B0 : Addr → Prop) (w : W) (ds : List D), WR K ws w H ∧ BX ws B0 H ∧ (∀ a, B0 a → H a ≠ none) ∧ DRs K ws (fun a => ws.has a ∨ B0 a) H vs ds ∧
  (match m ds w with
  | .ok d w' => ∀ v ws' H', Post ws H ws' H' → WR K ws' w' H' → DR K ws' (fun a => ws'.has a ∨ B0 a) H' v d → Q v H'
  | .ex c w' => ∀ ws' H' C, mg c = some (.ref C) → Post ws H ws' H' → WR K ws' w' H' → E (.ref C) none H'
  | .bad => False)
def fCall (m : Mf) (g : M (List D)) : M D := g.bind m
section
variable {K : PySem.W.Frag} {ws ws' : Wa} {B0 : Addr → Prop} {sl : Ls} {w w' : W} {σ : L2.St} {H H' : Hp}
theorem Env.bxs (e : Env K ws B0 sl w σ H) : BX ws (fun a => B0 a ∨ Own sl σ a) H := fun a z => by
  rcases z with z | ⟨i, d, h1, h2⟩
  · exact e.bx a z
  · obtain ⟨b, q1, q2, q3, q4⟩ := e.ow i d h1
    rw [h2] at q1
    cases q1
    exact ⟨q3, q2.nx⟩
theorem Post.le (p : Post ws H ws' H') (O : Addr → Prop) : Le ws O H ws' O H' := ⟨p.wle, p.new, fun _ h => .inl h, fun a o h1 h2 _ => p.keep a o h1 h2 (fun z => z), p.ex⟩
theorem Env.after (e : Env K ws B0 sl w σ H) (p : Post ws H ws' H') (hw : WR K ws' w' H') : Le ws (Own sl σ) H ws' (Own sl σ) H' ∧ Env K ws' B0 sl w' σ H' := by
  have l : Le ws (Own sl σ) H ws' (Own sl σ) H' := p.le (Own sl σ)
  refine ⟨l, ⟨e.len, hw, e.bx.keep e.dom p.new (fun a o hb z => p.keep a o z (e.bx a hb).1 (fun z => z)), fun a h z => e.dom a h (p.ex a z), fun j dj hj => ?_, fun j dj hj => ?_, e.uq⟩⟩
  · obtain ⟨u, h1, h2⟩ := e.va j dj hj
    exact ⟨u, h1, h2.le l⟩
  · obtain ⟨b, h1, h2, h3, h4⟩ := e.ow j dj hj
    refine ⟨b, h1, h2.le l fun u hu => p.keep b u hu h3 (fun z => z), fun z => ?_, h4⟩
    rcases p.new b z with q | q
    · exact h3 q
    · exact h2.there q
end
section
variable {X : Cx} {Wx : WX} {e : Expr} {es : List Expr} {pos p : Pos} {x : Str}
theorem fCall_go {K : PySem.W.Frag} {mg : Str → Option Value} {m : Mf} {g : An} {n : Nat} (hn : Cnt n g) (σ : L2.St) (H : Hp) (Q : VK) (h : tE K mg Wx (fun sl => fCall m (g sl)) σ H Q) : tCallS (spF K mg n m) (WE Wx) (tA K mg Wx g) σ H Q := by
  obtain ⟨ws, B0, sl, w, e, h⟩ := h
  refine ⟨ws, B0, sl, w, e, ?_⟩
  have h1 := runAt.bind h
  cases qg : g sl w with
  | bad => rw [qg] at h1; exact h1
  | ex c w1 => rw [qg] at h1; exact h1
  | ok ds w1 =>
    rw [qg] at h1
    intro ws1 H1 l1 e1 vs hvs
    have h2 : runAt K mg Wx ws1 B0 sl σ H1 (m ds w1) _ := h1 ws1 H1 l1 e1
    have hl := hvs.length
    refine ⟨by rw [hl]; exact hn _ _ _ _ qg, ws1, fun a => B0 a ∨ Own sl σ a, w1, ds, e1.wr, e1.bxs, fun a z => e1.bad a (.inr z), hvs, ?_⟩
    cases q : m ds w1 with
    | bad => rw [q] at h2; exact h2
    | ok d w' =>
      rw [q] at h2
      intro v ws' H' po hw hd
      obtain ⟨l3, e3⟩ := e1.after po hw
      exact h2 ws' H' l3 e3 v hd
    | ex c w' =>
      rw [q] at h2
      intro ws' H' C hC po hw
      obtain ⟨l3, e3⟩ := e1.after po hw
      exact h2 ws' H' C hC l3 e3
theorem m_call {m : Mf} {g : An} {k : Nat} {f : Addr} {fd : FuncData} {ps : List Str} (F : FnOk X.prog X.w X.K X.mg X.base (L2.CX X.prog X.w) k f fd ps (spF X.K X.mg ps.length m)) (hn : Cnt ps.length g) (hr : Room k X.A) (hm : X.mg x = some (.ref f)) (hk : PySem.W.keepIn X.K (.ref f) = true) (hb : Binds X.K fd ps []) (tk : Takes X Wx) (ha : PAm X Wx (e :: es) g)
    (hg : Gl X x := by rfl) (hdb : (x == ("__debug__" : Str)) = false := by decide) (he : starEach (e :: es) X.env = (false, eval e X.env) :: starEach es X.env := by rfl) (hpl : (backTo pos (starEach es X.env)).any (·.1) = false := by rfl) :
    PEm X Wx (.Call (.Name x p) (e :: es) [] pos) (fun sl => fCall m (g sl)) :=
  (pe_callS F hr hg hm hk hb (fun σ => passAt tk σ) ha hdb he hpl).mimp fun σ H Q h => fCall_go hn σ H Q h
end


def slStart (n : Nat) (ds : List D) : Ls := ds.map Sl.va ++ List.replicate (n - ds.length) .no
def runB (b : Sk) (n : Nat) (ds : List D) : M D := b (fun _ => M.pure .non) (fun _ => M.bad) (fun _ => M.bad) (slStart n ds)
theorem getElem?_start {α : Type} {xs : List α} {n i : Nat} {β : Type} {f : α → β} {z y : β} (h : (xs.map f ++ List.replicate n z)[i]? = some y) : (∃ x, xs[i]? = some x ∧ y = f x) ∨ y = z := by
  by_cases hi : i < xs.length
  · rw [List.getElem?_append_left (by simpa using hi), List.getElem?_map] at h
    cases e : xs[i]? with
    | none => rw [e] at h; cases h
    | some x => rw [e] at h; exact .inl ⟨x, rfl, (Option.some.inj h).symm⟩
  · rw [List.getElem?_append_right (by simpa using hi), List.getElem?_replicate] at h
    split at h
    · exact .inr (Option.some.inj h).symm
    · cases h
theorem env_start {K : PySem.W.Frag} {ws : Wa} {B0 : Addr → Prop} {w : W} {vs : List V} {ds : List D} {H : Hp} {N : List Str} (hw : WR K ws w H) (hbx : BX ws B0 H) (hd : ∀ a, B0 a → H a ≠ none) (r : DRs K ws (fun a => ws.has a ∨ B0 a) H vs ds) :
    (∀ a, ¬ Own (slStart N.length ds) (L2.start N vs) a) ∧ Env K ws B0 (slStart N.length ds) w (L2.start N vs) H := by
  have hl := r.length
  have noOw : ∀ (i : Nat) (d : D), (slStart N.length ds)[i]? ≠ some (.ow d) := fun i d h => by
    rcases getElem?_start h with ⟨x, _, z⟩ | z <;> cases z
  have nO : ∀ a, ¬ Own (slStart N.length ds) (L2.start N vs) a := fun a ⟨i, d, h, _⟩ => noOw i d h
  refine ⟨nO, ⟨by simp [L2.start, slStart, hl], hw, hbx, hd, fun i d h => ?_, fun i d h => absurd h (noOw i d), fun i j d e a h => absurd h (noOw i d)⟩⟩
  rcases getElem?_start h with ⟨x, hx, z⟩ | z
  · cases z
    obtain ⟨v, h1, h2⟩ := r.get hx
    have hi : i < vs.length := (List.getElem?_eq_some_iff.mp h1).1
    refine ⟨v, ?_, h2.keep ws.le_refl (fun _ _ e _ => e) fun a z => ?_⟩
    · unfold L2.start
      rw [List.getElem?_append_left (by simpa using hi), List.getElem?_map, h1]
      rfl
    · rcases z with z | z | z
      · exact .inl (.inl z)
      · exact .inl (.inr z)
      · exact absurd z (nO a)
  · cases z
section
variable {P : Program} {w : World} {K : PySem.W.Frag} {mg : Str → Option Value} {base : Heap}
end


section
variable {X : Cx} {Wx : WX} {pos p pos' : Pos} {x : Str} {C : Addr} {bmB : List Value} {B newId initId : String}
theorem pmk_own0 (F : ExcBaseFacts B newId initId bmB) (q : PySem.W.excIn X.K C bmB newId = true) (gC : X.mg x = some (.ref C)) (kC : PySem.W.keepIn X.K (.ref C) = true) (r : Raises X (.ref C)) (hg : Gl X x)
    (hdb : (x == ("__debug__" : Str)) = false := by decide) : PMk X (.Call (.Name x p) [] [] pos) (fun _ H Q => Q (.ref C) none H) := by
  intro pins s σ H Q I h
  refine wpAny_Call_Name_kw (ld_glob I hg gC ?_ hdb)
  refine PySem.W.callWith_K0 I.kIn kC ?_
  obtain ⟨bm, N, nm, qn, bs, hdct, sn, sub, ab, col, dd, k0, k1, k2, k3, k5, mN, hC, hN, hni, T⟩ := exc_obj I.kIn q
  refine wpAny_call_exc_subT F T hC hN hni (fun h' e hm => ?_) (by show 0 ≤ sizeLine; exact Nat.zero_le _)
  exact mk_of I hm r h (I.hok.gone hm.new)
theorem ms_raise (F : ExcBaseFacts B newId initId bmB) (q : PySem.W.excIn X.K C bmB newId = true) (gC : X.mg x = some (.ref C)) (kC : PySem.W.keepIn X.K (.ref C) = true) (r : Raises X (.ref C)) (tk : Takes X Wx) (hc : X.calm = true := by rfl) (hg : Gl X x := by rfl)
    (hdb : (x == ("__debug__" : Str)) = false := by decide) : PSm X Wx (.Raise (some (.Call (.Name x p) [] [] pos)) none pos') (fun _ _ _ _ => M.raise x) := by
  refine (ps_raise hc tk (pmk_own0 F q gC kC r hg hdb)).mimp fun D0 σ H ⟨ws, B0, sl, w, nx, bk, ct, e, h⟩ => ?_
  exact h.ex x w rfl σ ws sl H C gC (Le.refl _ _ _) e
end
end Pm
namespace Pm
open PySem PySem.Spec PyProof.Rows L2


def JOk (K : PySem.W.Frag) (ws : Wa) (B : Addr → Prop) (J : It) (items : List D) (H : Hp) : Prop :=
  ∀ i, (∀ d, items[i]? = some d → J.go i H ∧ ∀ x H', J.yld i H x H' → Grow H H' ∧ DR K ws B H' x d) ∧ (items.length ≤ i → J.stop i H)
def tIm (K : PySem.W.Frag) (mg : Str → Option Value) (Wx : WX) (f : An) : TI := fun σ H R => ∃ ws B0 sl w, Env K ws B0 sl w σ H ∧ runAt K mg Wx ws B0 sl σ H (f sl w) fun ws1 _ items H1 =>
  ∀ J, items.length ≤ sizeLine → (∀ ws' (B' : Addr → Prop) H', ws1.le ws' → (∀ a o, H1 a = some o → ¬ Bad ws1 B0 sl σ a → H' a = some o) → (∀ a, B' a → Bad ws1 B0 sl σ a ∨ H1 a = none) → (∀ a, B' a → H' a ≠ none) → JOk K ws' B' J items H') → R J H1
abbrev PIm (X : Cx) (Wx : WX) (tg iter : Expr) (f : An) : Prop := PI X tg iter (tIm X.K X.mg Wx f)
theorem _root_.L2.PI.mimp {X : Cx} {tg e : Expr} {t t' : TI} (h : PI X tg e t) (f : ∀ σ H Q, t' σ H Q → t σ H Q) : PI X tg e t' := ⟨fun pins s σ H Q I q => h.run pins s σ H Q I (f _ _ _ q)⟩
theorem _root_.L2.PI.orm {X : Cx} {tg e : Expr} {t t' : TI} (h : PI X tg e t) (h' : PI X tg e t') : PI X tg e (fun σ H R => t σ H R ∨ t' σ H R) := ⟨fun pins s σ H Q I q => q.elim (h.run pins s σ H Q I) (h'.run pins s σ H Q I)⟩
def itemsD : D → Option (List D)
  | .tup l => some l
  | .lst l => some l
  | .scr l => if l.length ≤ sizeLine then some (l.map D.int) else none
  | .str x => if x.cps.toList.length ≤ sizeLine then some (x.cps.toList.map fun c => .str ⟨#[c]⟩) else none
  | _ => none
def fItems (x : M D) : M (List D) := x.bind fun d => M.opt (itemsD d)
section
variable {K : PySem.W.Frag} {ws ws' : Wa} {B0 B' : Addr → Prop} {sl sl' : Ls} {σ σ' : L2.St} {H H' : Hp}
theorem bad_more (hB : ∀ a, B' a → B0 a ∨ H a = none) (l : Le ws (Own sl σ) H ws' (Own sl' σ') H') : ∀ a, Bad ws' B' sl' σ' a → Bad ws B0 sl σ a ∨ H a = none := fun a h => by
  rcases h with h | h | h
  · exact (l.new a h).imp .inl id
  · exact (hB a h).imp (fun z => .inr (.inl z)) id
  · exact (l.own a h).imp (fun z => .inr (.inr z)) id
theorem DR.more {v : V} {d : D} (hB : ∀ a, B' a → B0 a ∨ H a = none) (l : Le ws (Own sl σ) H ws' (Own sl' σ') H') (h : DR K ws (Bad ws B0 sl σ) H v d) : DR K ws' (Bad ws' B' sl' σ') H' v d := h.keep l.wle l.kp (bad_more hB l)
theorem DRs.more {v : List V} {d : List D} (hB : ∀ a, B' a → B0 a ∨ H a = none) (l : Le ws (Own sl σ) H ws' (Own sl' σ') H') (h : DRs K ws (Bad ws B0 sl σ) H v d) : DRs K ws' (Bad ws' B' sl' σ') H' v d := h.keep l.wle l.kp (bad_more hB l)
theorem jok_tup {B : Addr → Prop} {a : Addr} {vs : List V} {l : List D} (h : SqT K H a vs) (r : DRs K ws B H vs l) : JOk K ws B (Itt K a) l H := fun i => by
  refine ⟨fun d hd => ?_, fun hi => ⟨vs, h, by rw [r.length]; exact hi⟩⟩
  obtain ⟨v, h1, h2⟩ := r.get hd
  refine ⟨⟨vs, v, h, h1⟩, fun x H' hy => ?_⟩
  obtain ⟨rfl, hy⟩ := hy
  have := hy vs h
  rw [h1] at this
  cases this
  exact ⟨Grow.refl _, h2⟩
theorem jok_lst {B : Addr → Prop} {a : Addr} {vs : List V} {l : List D} (h : SqL K H a vs) (r : DRs K ws B H vs l) : JOk K ws B (Itl K a) l H := fun i => by
  refine ⟨fun d hd => ?_, fun hi => ⟨vs, h, by rw [r.length]; exact hi⟩⟩
  obtain ⟨v, h1, h2⟩ := r.get hd
  refine ⟨⟨vs, v, h, h1⟩, fun x H' hy => ?_⟩
  obtain ⟨rfl, hy⟩ := hy
  have := hy vs h
  rw [h1] at this
  cases this
  exact ⟨Grow.refl _, h2⟩
theorem jok_str {B : Addr → Prop} (x : Str) : JOk K ws B (Its x) (x.cps.toList.map fun c => .str ⟨#[c]⟩) H := fun i => by
  refine ⟨fun d hd => ?_, fun hi => (show x.cps.size ≤ i by simpa using hi)⟩
  rw [List.getElem?_map] at hd
  cases q : x.cps.toList[i]? with
  | none => rw [q] at hd; cases hd
  | some c =>
    rw [q] at hd
    cases hd
    have hi : i < x.cps.size := by have := (List.getElem?_eq_some_iff.mp q).1; simpa using this
    refine ⟨hi, fun y H' hy => ?_⟩
    obtain ⟨rfl, c', h1, rfl⟩ := hy
    have e : x.cps[i]? = some c := by rw [← Array.getElem?_toList]; exact q
    rw [e] at h1
    cases h1
    exact ⟨Grow.refl _, .str _⟩
theorem jok_rng {B : Addr → Prop} (lo c : Int) (n : Nat) : JOk K ws B (Itc lo c n) ((List.range n).map fun k => .int (lo + (k : Nat) * c)) H := fun i => by
  refine ⟨fun d hd => ?_, fun hi => (show n ≤ i by simpa using hi)⟩
  rw [List.getElem?_map] at hd
  cases q : (List.range n)[i]? with
  | none => rw [q] at hd; cases hd
  | some k =>
    rw [q] at hd
    cases hd
    obtain ⟨h1, h2⟩ := List.getElem?_eq_some_iff.mp q
    simp at h1 h2
    subst h2
    refine ⟨h1, fun y H' hy => ?_⟩
    obtain ⟨rfl, rfl⟩ := hy
    exact ⟨Grow.refl _, .int _⟩
end
section
variable {X : Cx} {Wx : WX} {tg e a b c : Expr} {pos p : Pos}
theorem mi_of {f : Dn} (he : PEm X Wx e f) : PIm X Wx tg e (fun sl => fItems (f sl)) := by
  refine (((pi_list he).orm (pi_tup he)).orm (pi_str he)).mimp fun σ H R ⟨ws, B0, sl, w, e, h⟩ => ?_
  have h : runAt X.K X.mg Wx ws B0 sl σ H (M.bind (f sl) (fun d => M.opt (itemsD d)) w) _ := h
  unfold M.bind at h
  cases q : f sl w with
  | bad => rw [q] at h; exact h.elim
  | ex c w1 =>
    refine .inl (.inl ⟨ws, B0, sl, w, e, ?_⟩)
    rw [q] at h ⊢
    exact h
  | ok d w1 =>
    rw [q] at h
    simp only at h
    obtain ⟨items, hi, h⟩ := runAt.opt h
    have go : ∀ (k : Wa → W → D → Hp → Prop), (∀ ws1 H1, Le ws (Own sl σ) H ws1 (Own sl σ) H1 → Env X.K ws1 B0 sl w1 σ H1 → k ws1 w1 d H1) → runAt X.K X.mg Wx ws B0 sl σ H (f sl w) k := fun k hk => by
      rw [q]
      exact fun ws1 H1 l1 e1 => hk ws1 H1 l1 e1
    cases d with
    | tup l =>
      cases hi
      refine .inl (.inr ⟨ws, B0, sl, w, e, go _ fun ws1 H1 l1 e1 v hv => ?_⟩)
      cases hv with
      | tup z t r => exact ⟨_, rfl, ⟨_, t.sq⟩, h ws1 H1 l1 e1 _ z fun ws' B' H' hw hk hB hd => jok_tup (Tp.keep hk hB t).sq (r.keep hw hk hB)⟩
    | lst l =>
      cases hi
      refine .inl (.inl ⟨ws, B0, sl, w, e, go _ fun ws1 H1 l1 e1 v hv => ?_⟩)
      cases hv with
      | lst z n t r => exact ⟨_, rfl, ⟨_, .inl (.inl t)⟩, h ws1 H1 l1 e1 _ z fun ws' B' H' hw hk hB hd => jok_lst (.inl (.inl (hk _ _ t n))) (r.keep hw hk hB)⟩
    | scr l =>
      simp only [itemsD] at hi
      split at hi
      · rename_i hz
        cases hi
        refine .inl (.inl ⟨ws, B0, sl, w, e, go _ fun ws1 H1 l1 e1 v hv => ?_⟩)
        cases hv with
        | scr _ t => exact ⟨_, rfl, ⟨_, t.sq⟩, h ws1 H1 l1 e1 _ (by rw [List.length_map]; exact hz) fun ws' B' H' hw hk hB hd => jok_lst (Lp.keep hk hB t).sq (DRs.ints _)⟩
      · cases hi
    | str x =>
      simp only [itemsD] at hi
      split at hi
      · rename_i hz
        cases hi
        refine .inr ⟨ws, B0, sl, w, e, go _ fun ws1 H1 l1 e1 v hv => ?_⟩
        cases hv
        exact ⟨x, rfl, h ws1 H1 l1 e1 _ (by rw [List.length_map]; exact hz) fun ws' B' H' hw hk hB hd => jok_str x⟩
      · cases hi
    | _ => cases hi

def rngA (j : Int) : Option (List D) := if j.toNat ≤ sizeLine ∧ -(2 ^ 62) ≤ j then some ((List.range j.toNat).map fun (k : Nat) => .int k) else none
def rngB (i j : Int) : Option (List D) := if (j - i).toNat ≤ sizeLine ∧ -(2 ^ 62) ≤ i ∧ i < 2 ^ 62 ∧ -(2 ^ 62) ≤ j ∧ j < 2 ^ 62 then some ((List.range (j - i).toNat).map fun (k : Nat) => .int (i + k)) else none
def rngC (i j c : Int) : Option (List D) := if c ≠ 0 ∧ c.natAbs < 1073741824 ∧ Builtin.Range.small i j c = true ∧ (Builtin.Range.rangeSize i j c).toNat ≤ sizeLine then some ((List.range (Builtin.Range.rangeSize i j c).toNat).map fun (k : Nat) => .int (i + k * c)) else none
def rngF : List D → Option (List D)
  | [.int j] => rngA j
  | [.int i, .int j] => rngB i j
  | [.int i, .int j, .int c] => rngC i j c
  | _ => none
def fRng (g : M (List D)) : M (List D) := g.bind fun l => M.opt (rngF l)
theorem itr_itc (lo : Int) (n : Nat) : Itr lo n = Itc lo 1 n := by
  unfold Itr Itc
  congr 1
  funext i H x H'
  simp
theorem mi_range1 {g : An} (hm : X.mg "range" = none) (ha : PAm X Wx [a] g) (hn : Cnt 1 g) (hg : Gl X "range" := by rfl) (hs : starEach [a] X.env = [(false, eval a X.env)] := by rfl) : PIm X Wx tg (.Call (.Name "range" p) [a] [] pos) (fun sl => fRng (g sl)) := by
  refine (pi_range1 hg hm ha hs).mimp fun σ H R ⟨ws, B0, sl, w, e, h⟩ => ?_
  refine ⟨ws, B0, sl, w, e, ?_⟩
  have h1 := runAt.bind h
  cases qg : g sl w with
  | bad => rw [qg] at h1; exact h1
  | ex c w1 => rw [qg] at h1; exact h1
  | ok ds w1 =>
    rw [qg] at h1
    intro ws1 H1 l1 e1 vs hv
    obtain ⟨items, hi, h2⟩ := runAt.opt (h1 ws1 H1 l1 e1)
    have hl := hn _ _ _ _ qg
    match ds, hl, hi, hv with
    | [.int j], _, hi, .cons (.int _) .nil =>
      have hi : rngA j = some items := hi
      unfold rngA at hi
      split at hi
      · rename_i hc
        cases hi
        have hz := hc.1
        refine ⟨j, rfl, hc.2, by have : sizeLine < 2 ^ 62 := by decide
                                 omega, ?_⟩
        rw [itr_itc]
        refine runAt.here e1 h2 _ (by simpa using hz) fun ws' B' H' hw hk hB hd => ?_
        have := jok_rng (K := X.K) (ws := ws') (B := B') (H := H') 0 1 j.toNat
        simpa using this
      · cases hi
theorem mi_range3 {g : An} (hm : X.mg "range" = none) (ha : PAm X Wx [a, b, c] g) (hn : Cnt 3 g) (hg : Gl X "range" := by rfl) (hs : starEach [a, b, c] X.env = (false, eval a X.env) :: starEach [b, c] X.env := by rfl) (hpl : (backTo pos (starEach [b, c] X.env)).any (·.1) = false := by rfl) : PIm X Wx tg (.Call (.Name "range" p) [a, b, c] [] pos) (fun sl => fRng (g sl)) := by
  refine (pi_range3 hg hm ha hs hpl).mimp fun σ H R ⟨ws, B0, sl, w, e, h⟩ => ?_
  refine ⟨ws, B0, sl, w, e, ?_⟩
  have h1 := runAt.bind h
  cases qg : g sl w with
  | bad => rw [qg] at h1; exact h1
  | ex c w1 => rw [qg] at h1; exact h1
  | ok ds w1 =>
    rw [qg] at h1
    intro ws1 H1 l1 e1 vs hv
    obtain ⟨items, hi, h2⟩ := runAt.opt (h1 ws1 H1 l1 e1)
    have hl := hn _ _ _ _ qg
    match ds, hl, hi, hv with
    | [x, y, z], _, hi, .cons hx (.cons hy (.cons hz .nil)) =>
      cases x <;> cases y <;> cases z <;> first | (cases hi; done) | skip
      rename_i i j c _
      cases hx; cases hy; cases hz
      have hi : rngC i j c = some items := hi
      unfold rngC at hi
      split at hi
      · rename_i hc
        cases hi
        refine ⟨i, j, c, _, rfl, ⟨hc.1, hc.2.1, hc.2.2.1, rangeSize_toNat i j c⟩, ?_⟩
        exact runAt.here e1 h2 _ (by simpa using hc.2.2.2) fun ws' B' H' hw hk hB hd => jok_rng i c _
      · cases hi
end


def zipL : List D → List D → List D
  | x :: xs, y :: ys => .tup [x, y] :: zipL xs ys
  | _, _ => []
theorem zipL_eq : ∀ (xs ys : List D), zipL xs ys = (xs.zip ys).map fun p => .tup [p.1, p.2]
  | [], _ => rfl
  | _ :: _, [] => rfl
  | x :: xs, y :: ys => by simp [zipL, zipL_eq xs ys]
theorem zipL_get {xs ys : List D} {i : Nat} {d : D} (h : (zipL xs ys)[i]? = some d) : ∃ x y, xs[i]? = some x ∧ ys[i]? = some y ∧ d = .tup [x, y] := by
  induction xs generalizing ys i with
  | nil => simp [zipL] at h
  | cons x xs ih =>
    cases ys with
    | nil => simp [zipL] at h
    | cons y ys =>
      cases i with
      | zero => simp [zipL] at h; exact ⟨x, y, rfl, rfl, h.symm⟩
      | succ i => simpa using ih (by simpa [zipL] using h)
theorem zipL_len (xs ys : List D) : (zipL xs ys).length = min xs.length ys.length := by rw [zipL_eq, List.length_map, List.length_zip]
def zipD : D → D → Option (List D)
  | .tup a, .tup b => some (zipL a b)
  | .lst a, .lst b => some (zipL a b)
  | .lst a, .scr b => some (zipL a (b.map D.int))
  | .scr a, .lst b => some (zipL (a.map D.int) b)
  | _, _ => none
section
variable {K : PySem.W.Frag} {ws : Wa} {B : Addr → Prop} {H : Hp}
theorem dr_pair {T : Addr} {x y : V} {dx dy : D} (hT : H T = none) (hb : ∀ a, B a → H a ≠ none) (hx : DR K ws B H x dx) (hy : DR K ws B H y dy) : DR K ws B (upd H T (.tup [x, y])) (.ref T) (.tup [dx, dy]) :=
  .tup (by show 2 ≤ sizeLine; decide) (.inl ⟨fun z => hb T z hT, upd_same⟩) (.cons (hx.grow (Grow.new hT)) (.cons (hy.grow (Grow.new hT)) .nil))
theorem jok_zipT {a b : Addr} {xs ys : List V} {l m : List D} (hb : ∀ a, B a → H a ≠ none) (h : SqT K H a xs) (r : DRs K ws B H xs l) (h' : SqT K H b ys) (r' : DRs K ws B H ys m) : JOk K ws B (RZ.ItzT K a b) (zipL l m) H := fun i => by
  refine ⟨fun d hd => ?_, fun hi => ⟨xs, ys, h, h', ?_⟩⟩
  · obtain ⟨x, y, h1, h2, rfl⟩ := zipL_get hd
    obtain ⟨v, q1, q2⟩ := r.get h1
    obtain ⟨u, q3, q4⟩ := r'.get h2
    refine ⟨⟨xs, ys, v, u, h, h', q1, q3⟩, fun z H' hy => ?_⟩
    obtain ⟨T, x', y', rfl, hT, rfl, f1, f2⟩ := hy
    have e1 := f1 xs h
    have e2 := f2 ys h'
    rw [q1] at e1
    rw [q3] at e2
    cases e1
    cases e2
    exact ⟨Grow.new hT, dr_pair hT hb q2 q4⟩
  · rw [zipL_len] at hi
    rw [r.length, r'.length]
    omega
theorem jok_zipL {a b : Addr} {xs ys : List V} {l m : List D} (hb : ∀ a, B a → H a ≠ none) (h : SqL K H a xs) (r : DRs K ws B H xs l) (h' : SqL K H b ys) (r' : DRs K ws B H ys m) : JOk K ws B (Itz K a b) (zipL l m) H := fun i => by
  refine ⟨fun d hd => ?_, fun hi => ⟨xs, ys, h, h', ?_⟩⟩
  · obtain ⟨x, y, h1, h2, rfl⟩ := zipL_get hd
    obtain ⟨v, q1, q2⟩ := r.get h1
    obtain ⟨u, q3, q4⟩ := r'.get h2
    refine ⟨⟨xs, ys, v, u, h, h', q1, q3⟩, fun z H' hy => ?_⟩
    obtain ⟨T, x', y', rfl, hT, rfl, f1, f2⟩ := hy
    have e1 := f1 xs h
    have e2 := f2 ys h'
    rw [q1] at e1
    rw [q3] at e2
    cases e1
    cases e2
    exact ⟨Grow.new hT, dr_pair hT hb q2 q4⟩
  · rw [zipL_len] at hi
    rw [r.length, r'.length]
    omega
def lstOf : D → Option (List D)
  | .lst l => some l
  | .scr l => some (l.map D.int)
  | _ => none
theorem dr_lst {v : V} {d : D} {l : List D} (h : DR K ws B H v d) (hl : lstOf d = some l) : ∃ a vs, v = .ref a ∧ Lp K B H a vs ∧ DRs K ws B H vs l := by
  cases h with
  | lst _ n h r => cases hl; exact ⟨_, _, rfl, .inl ⟨n, .inl h⟩, r⟩
  | scr ns h => cases hl; exact ⟨_, _, rfl, h, DRs.ints ns⟩
  | _ => cases hl
theorem zipD_cases {x y : D} {l : List D} (h : zipD x y = some l) : (∃ a b, x = .tup a ∧ y = .tup b ∧ l = zipL a b) ∨ ∃ a b, lstOf x = some a ∧ lstOf y = some b ∧ l = zipL a b := by
  unfold zipD at h
  split at h <;> cases h
  · exact .inl ⟨_, _, rfl, rfl, rfl⟩
  · exact .inr ⟨_, _, rfl, rfl, rfl⟩
  · exact .inr ⟨_, _, rfl, rfl, rfl⟩
  · exact .inr ⟨_, _, rfl, rfl, rfl⟩
end
def fZip (g : M (List D)) : M (List D) := g.bind fun l => match l with
  | [x, y] => M.opt (zipD x y)
  | _ => M.bad
section
variable {X : Cx} {Wx : WX} {a b c : Expr} {pos p tpos : Pos} {elts : List Expr} {kk : Nat}
theorem mi_zip {g : An} (hm : X.mg "zip" = none) (ha : PAm X Wx [a, b] g) (hg : Gl X "zip" := by rfl)
    (hs : starEach [a, b] X.env = (false, eval a X.env) :: starEach [b] X.env := by rfl) (hpl : (backTo pos (starEach [b] X.env)).any (·.1) = false := by rfl) : PIm X Wx (.Tuple elts kk tpos) (.Call (.Name "zip" p) [a, b] [] pos) (fun sl => fZip (g sl)) := by
  refine (RZ.pi_zipA hg hm ha hs hpl).mimp fun σ H R ⟨ws, B0, sl, w, e, h⟩ => ?_
  refine ⟨ws, B0, sl, w, e, (runAt.bind h).mono fun ws1 w1 ds H1 l1 e1 h1 vs hv => ?_⟩
  match ds, h1, hv with
  | [x, y], h2, .cons rx (.cons ry .nil) =>
    obtain ⟨l, q, h2⟩ := runAt.opt h2
    rcases zipD_cases q with ⟨xs, ys, rfl, rfl, rfl⟩ | ⟨xs, ys, hx, hy, rfl⟩
    · cases rx with
      | tup z1 t1 r1 =>
        cases ry with
        | tup z2 t2 r2 =>
          exact ⟨_, _, _, _, rfl, .inr ⟨t1.sq, t2.sq, runAt.here e1 h2 _ (by rw [zipL_len]; omega) fun ws' B' H' hw hk hB hd => jok_zipT hd (Tp.keep hk hB t1).sq (r1.keep hw hk hB) (Tp.keep hk hB t2).sq (r2.keep hw hk hB)⟩⟩
    · obtain ⟨a1, vs1, rfl, t1, r1⟩ := dr_lst rx hx
      obtain ⟨a2, vs2, rfl, t2, r2⟩ := dr_lst ry hy
      have hz : (zipL xs ys).length ≤ sizeLine := by
        rw [zipL_len]
        cases rx with
        | lst z _ _ _ => cases hx; omega
        | scr _ _ =>
          cases ry with
          | lst z _ _ _ => cases hy; omega
          | scr _ _ => cases q
          | _ => cases hy
        | _ => cases hx
      exact ⟨_, _, _, _, rfl, .inl ⟨t1.sq, t2.sq, runAt.here e1 h2 _ hz fun ws' B' H' hw hk hB hd => jok_zipL hd (Lp.keep hk hB t1).sq (r1.keep hw hk hB) (Lp.keep hk hB t2).sq (r2.keep hw hk hB)⟩⟩
end
end Pm
namespace Pm
open PySem PySem.Spec PyProof.Rows L2


abbrev Gk := (β : Type) → D → (Ls → M β) → Ls → M β
abbrev Gks := (β : Type) → List D → (Ls → M β) → Ls → M β
def Out (ts : List Nat) (σ σ' : L2.St) : Prop := σ'.length = σ.length ∧ ∀ j, j ∉ ts → σ'[j]? = σ[j]?
def OutS (ts : List Nat) (sl sl' : Ls) : Prop := ∀ j, j ∉ ts → sl'[j]? = sl[j]?
def tGm (K : PySem.W.Frag) (ts : List Nat) (p : Gk) : TG := fun v σ H Q => ∃ ws B0 sl w d, ∃ (β : Type) (nx : Ls → M β), Env K ws B0 sl w σ H ∧ DR K ws (Bad ws B0 sl σ) H v d ∧ p β d nx sl w ≠ .bad ∧
  ∀ σ' ws' sl' w' H', Out ts σ σ' → OutS ts sl sl' → Le ws (Own sl σ) H ws' (Own sl' σ') H' → Env K ws' B0 sl' w' σ' H' → nx sl' w' = p β d nx sl w → Q σ' H'
def tGsm (K : PySem.W.Frag) (ts : List Nat) (p : Gks) : TGs := fun vs σ H Q => ∃ ws B0 sl w ds, ∃ (β : Type) (nx : Ls → M β), Env K ws B0 sl w σ H ∧ DRs K ws (Bad ws B0 sl σ) H vs ds ∧ p β ds nx sl w ≠ .bad ∧
  ∀ σ' ws' sl' w' H', Out ts σ σ' → OutS ts sl sl' → Le ws (Own sl σ) H ws' (Own sl' σ') H' → Env K ws' B0 sl' w' σ' H' → nx sl' w' = p β ds nx sl w → Q σ' H'
abbrev PGm (X : Cx) (tg : Expr) (ts : List Nat) (p : Gk) : Prop := PG X tg (tGm X.K ts p)
abbrev PGsm (X : Cx) (tg : List Expr) (ts : List Nat) (p : Gks) : Prop := PGs X tg (tGsm X.K ts p)
theorem _root_.L2.PG.mimp {X : Cx} {tg : Expr} {t t' : TG} (h : PG X tg t) (f : ∀ v σ H Q, t' v σ H Q → t v σ H Q) : PG X tg t' := ⟨fun pins s σ H v u Q I r q => h.run pins s σ H v u Q I r (f _ _ _ _ q)⟩
theorem _root_.L2.PGs.mimp {X : Cx} {tg : List Expr} {t t' : TGs} (h : PGs X tg t) (f : ∀ v σ H Q, t' v σ H Q → t v σ H Q) : PGs X tg t' := ⟨fun pins s σ H v u Q I r q => h.run pins s σ H v u Q I r (f _ _ _ _ q)⟩
def pTup (n : Nat) (q : Gks) : Gk := fun β d nx sl => match d with
  | .tup l => if l.length = n then q β l nx sl else M.bad
  | _ => M.bad
section
variable {X : Cx} {e e1 e2 e3 e4 : Expr} {es : List Expr} {pos : Pos} {x : Str} {i : Nat}
theorem Out.refl (ts : List Nat) (σ : L2.St) : Out ts σ σ := ⟨rfl, fun _ _ => rfl⟩
theorem Out.trans {ts us : List Nat} {σ σ' σ'' : L2.St} (a : Out ts σ σ') (b : Out us σ' σ'') : Out (ts ++ us) σ σ'' := ⟨b.1.trans a.1, fun j h => by
  simp only [List.mem_append, not_or] at h
  rw [b.2 j h.2, a.2 j h.1]⟩
theorem mgn (i : Nat) (hN : X.N.Nodup) (hi : X.N[i]? = some x := by rfl) (hx : L2.Loc X.env.scope x := by first | exact Or.inl rfl | exact Or.inr rfl) (hf : X.fn x = true ∨ X.env.scope.names.lookup x = some .local := by first | exact .inl rfl | exact .inr rfl) : PGm X (.Name x pos) [i] (fun β d nx sl => nx (sl.set i (.va d))) := by
  refine (pg_name hN hi hx hf).mimp fun v σ H Q ⟨ws, B0, sl, w, d, β, nx, e, r, nb, h⟩ => ?_
  obtain ⟨l, e'⟩ := e.put (i := i) r
  exact h _ _ _ _ _ ⟨List.length_set, fun j hj => List.getElem?_set_ne (fun z => hj (by simp [z]))⟩ (fun j hj => List.getElem?_set_ne (fun z => hj (by simp [z]))) l e' rfl
theorem mgs_nil : PGsm X [] [] (fun β ds nx sl => match ds with | [] => nx sl | _ => M.bad) := by
  refine pgs_nil.mimp fun vs σ H Q ⟨ws, B0, sl, w, ds, β, nx, e, r, nb, h⟩ => ?_
  cases r with
  | nil => exact ⟨rfl, h _ _ _ _ _ (Out.refl _ _) (fun _ _ => rfl) (Le.refl _ _ _) e rfl⟩
  | cons _ _ => exact absurd rfl nb
theorem mgs_cons {p : Gk} {q : Gks} {ts us : List Nat} (h1 : PGm X e ts p) (h2 : PGsm X es us q) (hs : (assignEach (e :: es) X.env).map (·.2) = assign e X.env :: (assignEach es X.env).map (·.2) := by rfl) : PGsm X (e :: es) (ts ++ us) (fun β ds nx sl => match ds with | d :: r => p β d (fun sl1 => q β r nx sl1) sl | [] => M.bad) := by
  refine (pgs_cons h1 h2 hs).mimp fun vs σ H Q ⟨ws, B0, sl, w, ds, β, nx, e, r, nb, h⟩ => ?_
  cases r with
  | nil => exact absurd rfl nb
  | @cons v vs d ds r1 r2 =>
    have nb : p β d (fun sl1 => q β ds nx sl1) sl w ≠ .bad := nb
    refine ⟨v, vs, rfl, ws, B0, sl, w, d, β, _, e, r1, nb, fun σ1 ws1 sl1 w1 H1 o1 u1 l1 e1 z1 => ?_⟩
    refine ⟨ws1, B0, sl1, w1, ds, β, nx, e1, r2.le l1, by rw [z1]; exact nb, fun σ2 ws2 sl2 w2 H2 o2 u2 l2 e2 z2 => ?_⟩
    exact h σ2 ws2 sl2 w2 H2 (o1.trans o2) (fun j hj => by
      simp only [List.mem_append, not_or] at hj
      rw [u2 j hj.2, u1 j hj.1]) (l1.trans l2) e2 (z2.trans z1)
theorem mg_tup {q : Gks} {ts : List Nat} {n k : Nat} (hc : X.calm = true) (h : PGsm X es ts q) (hn : (assignEach es X.env).length = n) (hst : (assignEach es X.env).findIdx? (·.1) = none) : PGm X (.Tuple es k pos) ts (pTup n q) := by
  refine (pg_tup hc h hn hst).mimp fun v σ H Q ⟨ws, B0, sl, w, d, β, nx, e, r, nb, h⟩ => ?_
  cases r with
  | tup z t r =>
    unfold pTup at nb h
    simp only at nb h
    split at nb
    · rename_i hl
      rw [if_pos hl] at h
      exact ⟨_, _, rfl, t.sq, by rw [r.length]; exact hl, ws, B0, sl, w, _, β, nx, e, r, nb, h⟩
    · exact absurd rfl nb
  | _ => exact absurd rfl nb

def fU2 {β : Type} (d : D) (k : D → D → M β) : M β := match d with
  | .tup [a, b] => k a b
  | _ => M.bad
def fU3 {β : Type} (d : D) (k : D → D → D → M β) : M β := match d with
  | .tup [a, b, c] => k a b c
  | _ => M.bad
def fU4 {β : Type} (d : D) (k : D → D → D → D → M β) : M β := match d with
  | .tup [a, b, c, e] => k a b c e
  | _ => M.bad
theorem mg_tup2 {p1 p2 : Gk} {t1 t2 : List Nat} {k : Nat} (hc : X.calm = true) (h1 : PGm X e1 t1 p1) (h2 : PGm X e2 t2 p2) (hn : (assignEach [e1, e2] X.env).length = 2 := by rfl) (hst : (assignEach [e1, e2] X.env).findIdx? (·.1) = none := by rfl)
    (hs1 : (assignEach [e1, e2] X.env).map (·.2) = assign e1 X.env :: (assignEach [e2] X.env).map (·.2) := by rfl) (hs2 : (assignEach [e2] X.env).map (·.2) = assign e2 X.env :: (assignEach [] X.env).map (·.2) := by rfl) :
    PGm X (.Tuple [e1, e2] k pos) (t1 ++ (t2 ++ [])) (fun β d nx sl => fU2 d fun a b => p1 β a (fun sl => p2 β b nx sl) sl) := by
  have := mg_tup (k := k) (pos := pos) hc (mgs_cons h1 (mgs_cons h2 mgs_nil hs2) hs1) hn hst
  refine (congrArg (fun p => PGm X (.Tuple [e1, e2] k pos) (t1 ++ (t2 ++ [])) p) ?_).mp this
  funext β d nx sl
  unfold pTup fU2
  cases d <;> try rfl
  rename_i l
  match l with
  | [] => rfl
  | [_] => rfl
  | [_, _] => rfl
  | _ :: _ :: _ :: _ => simp
theorem mg_tup3 {p1 p2 p3 : Gk} {t1 t2 t3 : List Nat} {k : Nat} (hc : X.calm = true) (h1 : PGm X e1 t1 p1) (h2 : PGm X e2 t2 p2) (h3 : PGm X e3 t3 p3) (hn : (assignEach [e1, e2, e3] X.env).length = 3 := by rfl) (hst : (assignEach [e1, e2, e3] X.env).findIdx? (·.1) = none := by rfl)
    (hs1 : (assignEach [e1, e2, e3] X.env).map (·.2) = assign e1 X.env :: (assignEach [e2, e3] X.env).map (·.2) := by rfl) (hs2 : (assignEach [e2, e3] X.env).map (·.2) = assign e2 X.env :: (assignEach [e3] X.env).map (·.2) := by rfl) (hs3 : (assignEach [e3] X.env).map (·.2) = assign e3 X.env :: (assignEach [] X.env).map (·.2) := by rfl) :
    PGm X (.Tuple [e1, e2, e3] k pos) (t1 ++ (t2 ++ (t3 ++ []))) (fun β d nx sl => fU3 d fun a b c => p1 β a (fun sl => p2 β b (fun sl => p3 β c nx sl) sl) sl) := by
  have := mg_tup (k := k) (pos := pos) hc (mgs_cons h1 (mgs_cons h2 (mgs_cons h3 mgs_nil hs3) hs2) hs1) hn hst
  refine (congrArg (fun p => PGm X (.Tuple [e1, e2, e3] k pos) (t1 ++ (t2 ++ (t3 ++ []))) p) ?_).mp this
  funext β d nx sl
  unfold pTup fU3
  cases d <;> try rfl
  rename_i l
  match l with
  | [] => rfl
  | [_] => rfl
  | [_, _] => rfl
  | [_, _, _] => rfl
  | _ :: _ :: _ :: _ :: _ => simp
end


section
variable {X : Cx} {Wx : WX} {e tg iter c : Expr} {pos : Pos} {body : List Stmt}
theorem ms_asg {f : Dn} {p : Gk} {ts : List Nat} (he : PEm X Wx e f) (hg : PGm X tg ts p) (hs : swapsWithSole [tg] e pos.line X.env = pure false := by rfl) (hw : swappedStores [tg] e X.env = pure none := by rfl)
    (h1 : (assignEach [tg] X.env).map (·.2) = [assign tg X.env] := by rfl) : PSm X Wx (.Assign [tg] e pos) (fun nx _ _ sl => (f sl).bind fun d => p D d nx sl) := by
  refine (ps_asg he hg hs hw h1).mimp fun D0 σ H ⟨ws, B0, sl, w, nx, bk, ct, e, h⟩ => ?_
  refine ⟨ws, B0, sl, w, e, (Ans.bind h).mono fun ws1 w1 d H1 l1 e1 h1 v hv => ?_⟩
  exact ⟨ws1, B0, sl, w1, d, D, nx, e1, hv, h1.nb, fun σ' ws' sl' w' H' o _ l e' q => h1.nx σ' ws' sl' w' H' l e' q⟩


def forK (js : List Nat) (p : Gk) (b : Sk) : List D → Kn → Kn
  | [], nx => fun sl => nx sl
  | x :: xs, nx => fun sl => p D x (fun sl1 => b (fun sl2 => forK js p b xs nx (setNo js sl2)) (fun sl2 => nx (setNo js sl2)) (fun sl2 => forK js p b xs nx (setNo js sl2)) sl1) sl
theorem ms_for0 {it : An} {p : Gk} {b : Sk} {ts : List Nat} (js : List Nat) (hp : PassesOwn (model X.prog X.w) X.A X.env X.xe) (hi : PIm X Wx tg iter it) (hg : PGm X tg ts p) (hb : PSsm X Wx body b) (hc : X.calm = true := by rfl) (hs : ∀ x, foldedSetIterable iter X.env x = pure x := by intro _; rfl) :
    PSm X Wx (.For tg iter body [] pos) (fun nx _ _ sl => (it sl).bind fun xs => forK js p b xs nx (setNo js sl)) := by
  refine (ps_for hp hc hi hg hb hs).mimp fun D0 σ H ⟨ws, B0, sl, w, nx, bk, ct, e, h⟩ => ?_
  refine ⟨ws, B0, sl, w, e, (Ans.bind h).mono fun ws1 w1 items H1 l1 e1 h1 J hz hJ => ?_⟩
  obtain ⟨l0, e0⟩ := e1.dropAll js
  generalize hr : forK js p b items nx (setNo js sl) w1 = r at h1
  refine ⟨fun i m σ' H' => m = items.length - i ∧ ∃ ws' sl' w', Le ws1 (Own sl σ) H1 ws' (Own sl' σ') H' ∧ Env X.K ws' B0 sl' w' σ' H' ∧ forK js p b (items.drop i) nx sl' w' = r,
    ⟨items.length, rfl, ws1, _, w1, l0, e0, hr⟩, ?_⟩
  rintro i m σ' H' ⟨rfl, ws', sl', w', l, e', h'⟩
  have hj := hJ ws' (Bad ws' B0 sl' σ') H' l.wle l.kp l.bad e'.bad i
  by_cases hi : i < items.length
  · have hd : items[i]? = some items[i] := by simp [hi]
    have hdr : items.drop i = items[i] :: items.drop (i + 1) := (List.drop_eq_getElem_cons hi)
    rw [hdr] at h'
    obtain ⟨hgo, hy⟩ := hj.1 _ hd
    refine .inr ⟨hgo, _, fun σ2 H2 z => z, fun x H2 hyl => ?_⟩
    obtain ⟨gr, hx⟩ := hy x H2 hyl
    unfold forK at h'
    refine ⟨ws', B0, sl', w', items[i], D, _, e'.grow gr, hx, by rw [h']; exact h1.nb, fun σ2 ws2 sl2 w2 H3 o2 _ l2 e2 z2 => ?_⟩
    have l02 := (gr.le ws' (Own sl' σ')).trans l2
    rw [h'] at z2
    have lall := l.trans l02
    have nxt : ∀ {σ3 ws3 sl3 w3 H4}, Le ws2 (Own sl2 σ2) H3 ws3 (Own sl3 σ3) H4 → Env X.K ws3 B0 sl3 w3 σ3 H4 → forK js p b (items.drop (i + 1)) nx (setNo js sl3) w3 = r → ∃ m', m' < items.length - i ∧ m' = items.length - (i + 1) ∧ ∃ ws' sl' w', Le ws1 (Own sl σ) H1 ws' (Own sl' σ3) H4 ∧ Env X.K ws' B0 sl' w' σ3 H4 ∧ forK js p b (items.drop (i + 1)) nx sl' w' = r := fun {σ3 ws3 sl3 w3 H4} l3 e3 q => by
      obtain ⟨l4, e4⟩ := e3.dropAll js
      exact ⟨items.length - (i + 1), by omega, rfl, ws3, _, w3, (lall.trans l3).trans l4, e4, q⟩
    refine ⟨ws2, B0, sl2, w2, _, _, _, e2, ⟨by rw [z2]; exact h1.nb, ?_, ?_, ?_, ?_, ?_⟩⟩
    · intro σ3 ws3 sl3 w3 H4 l3 e3 q
      exact nxt l3 e3 (q.trans z2)
    · intro σ3 ws3 sl3 w3 H4 l3 e3 q
      obtain ⟨l4, e4⟩ := e3.dropAll js
      exact h1.nx σ3 ws3 _ w3 H4 ((lall.trans l3).trans l4) e4 (q.trans z2)
    · intro σ3 ws3 sl3 w3 H4 l3 e3 q
      exact nxt l3 e3 (q.trans z2)
    · intro d w3 q σ3 ws3 sl3 H4 v l3 e3 hv
      exact h1.rt d w3 (z2.symm.trans q) σ3 ws3 sl3 H4 v (lall.trans l3) e3 hv
    · intro c w3 q σ3 ws3 sl3 H4 C hC l3 e3
      exact h1.ex c w3 (z2.symm.trans q) σ3 ws3 sl3 H4 C hC (lall.trans l3) e3
  · refine .inl ⟨hj.2 (by omega), ?_⟩
    rw [List.drop_of_length_le (by omega)] at h'
    exact h1.nx σ' ws' sl' w' H' l e' h'
def fFor {σ α : Type} (body : D → σ → (σ → M α) → M α) : List D → σ → (σ → M α) → M α
  | [], st, k => k st
  | x :: xs, st, k => body x st fun st' => fFor body xs st' k
theorem forK_eq {ε τ : Type} {js : List Nat} {p : Gk} {b : Sk} {enc : ε → τ → Ls} {bodyF : ε → D → τ → (τ → M D) → M D}
    (heq : ∀ e x st (k kb : Kn), p D x (fun sl1 => b (fun sl2 => k (setNo js sl2)) (fun sl2 => kb (setNo js sl2)) (fun sl2 => k (setNo js sl2)) sl1) (enc e st) = bodyF e x st fun st' => k (enc e st')) (e : ε) (nx : Kn) : ∀ (xs : List D) (st : τ), forK js p b xs nx (enc e st) = fFor (bodyF e) xs st fun st' => nx (enc e st')
  | [], st => rfl
  | x :: xs, st => by
    unfold forK fFor
    rw [heq e x st (fun sl => forK js p b xs nx sl) nx]
    congr 1
    funext st'
    exact forK_eq heq e nx xs st'
def nVw {ε τ : Type} (vw : Ls → Option (ε × τ)) (sl : Ls) (k : ε → τ → M D) : M D := match vw sl with
  | some (e, st) => k e st
  | none => M.bad
theorem ms_eqv {st : Stmt} {b b' : Sk} (h : PSm X Wx st b) (hb : ∀ nx bk ct sl w, b' nx bk ct sl w = .bad ∨ b nx bk ct sl w = b' nx bk ct sl w) : PSm X Wx st b' := by
  refine h.mimp fun D0 σ H ⟨ws, B0, sl, w, nx, bk, ct, e, h⟩ => ?_
  rcases hb nx bk ct sl w with q | q
  · exact absurd q h.nb
  · exact ⟨ws, B0, sl, w, nx, bk, ct, e, by rw [q]; exact h⟩
theorem ms_for {ε τ : Type} {it : An} {p : Gk} {b : Sk} {ts : List Nat} (js : List Nat) (enc : ε → τ → Ls) (vw : Ls → Option (ε × τ)) (bodyF : ε → D → τ → (τ → M D) → M D) (hp : PassesOwn (model X.prog X.w) X.A X.env X.xe) (hi : PIm X Wx tg iter it) (hg : PGm X tg ts p) (hb : PSsm X Wx body b)
    (heq : ∀ e x st (k kb : Kn), p D x (fun sl1 => b (fun sl2 => k (setNo js sl2)) (fun sl2 => kb (setNo js sl2)) (fun sl2 => k (setNo js sl2)) sl1) (enc e st) = bodyF e x st fun st' => k (enc e st'))
    (hv : ∀ sl e st, vw sl = some (e, st) → sl = enc e st) (hc : X.calm = true := by rfl) (hs : ∀ x, foldedSetIterable iter X.env x = pure x := by intro _; rfl) :
    PSm X Wx (.For tg iter body [] pos) (fun nx _ _ sl => nVw vw (setNo js sl) fun e st => (it sl).bind fun xs => fFor (bodyF e) xs st fun st' => nx (enc e st')) := by
  refine ms_eqv (ms_for0 js hp hi hg hb hc hs) fun nx bk ct sl w => ?_
  unfold nVw
  cases q : vw (setNo js sl) with
  | none => exact .inl rfl
  | some z =>
    obtain ⟨e, st⟩ := z
    refine .inr ?_
    simp only
    congr 2
    funext xs
    rw [hv _ _ _ q, forK_eq heq]

noncomputable def wF : Nat := Classical.choose (⟨100000, rfl⟩ : ∃ n : Nat, n = 100000)
theorem wF_eq : wF = 100000 := Classical.choose_spec (⟨100000, rfl⟩ : ∃ n : Nat, n = 100000)
def whileK (js : List Nat) (c : Bn) (b : Sk) : Nat → Kn → Kn
  | 0, _ => fun _ => M.bad
  | n + 1, nx => fun sl => fIf (c sl) (b (fun sl2 => whileK js c b n nx (setNo js sl2)) (fun sl2 => nx (setNo js sl2)) (fun sl2 => whileK js c b n nx (setNo js sl2)) sl) (nx sl)
theorem ms_while0 {cf : Bn} {b : Sk} (js : List Nat) (n : Nat) (hp : PassesOwn (model X.prog X.w) X.A X.env X.xe) (hc : PTm X Wx c cf) (hb : PSsm X Wx body b) : PSm X Wx (.While c body [] pos) (fun nx _ _ sl => whileK js cf b n nx (setNo js sl)) := by
  refine (ps_while hp hc hb).mimp fun D0 σ H ⟨ws, B0, sl, w, nx, bk, ct, e, h⟩ => ?_
  obtain ⟨l0, e0⟩ := e.dropAll js
  have h : Ans X.K X.mg Wx ws B0 sl σ H (whileK js cf b n nx (setNo js sl) w) nx bk ct D0 := h
  generalize hr : whileK js cf b n nx (setNo js sl) w = r at h
  refine ⟨fun m σ' H' => ∃ ws' sl' w', Le ws (Own sl σ) H ws' (Own sl' σ') H' ∧ Env X.K ws' B0 sl' w' σ' H' ∧ whileK js cf b m nx sl' w' = r, ⟨n, ws, _, w, l0, e0, hr⟩, ?_⟩
  rintro m σ' H' ⟨ws', sl', w', l, e', h'⟩
  cases m with
  | zero => exact absurd h'.symm h.nb
  | succ m =>
    have h'' : M.bind (cf sl') (fun t => if t = true then b (fun sl2 => whileK js cf b m nx (setNo js sl2)) (fun sl2 => nx (setNo js sl2)) (fun sl2 => whileK js cf b m nx (setNo js sl2)) sl' else nx sl') w' = r := h'
    refine ⟨ws', B0, sl', w', e', ?_⟩
    unfold M.bind at h''
    cases q : cf sl' w' with
    | bad => rw [q] at h''; exact absurd h''.symm h.nb
    | ex c w1 => rw [q] at h''; exact fun ws1 H1 C hC l1 e1 => h.ex c w1 h''.symm σ' ws1 sl' H1 C hC (l.trans l1) e1
    | ok k w1 =>
      rw [q] at h''
      simp only at h''
      intro ws1 H1 l1 e1
      cases k with
      | false =>
        rw [if_neg Bool.false_ne_true] at h''
        exact h.nx σ' ws1 sl' w1 H1 (l.trans l1) e1 h''
      | true =>
        rw [if_pos rfl] at h''
        have lall := l.trans l1
        show ∃ N : L2.St → Hp → Prop, _
        have nxt : ∀ {σ3 ws3 sl3 w3 H4}, Le ws1 (Own sl' σ') H1 ws3 (Own sl3 σ3) H4 → Env X.K ws3 B0 sl3 w3 σ3 H4 → whileK js cf b m nx (setNo js sl3) w3 = r → ∃ m', m' < m + 1 ∧ ∃ ws' sl' w', Le ws (Own sl σ) H ws' (Own sl' σ3) H4 ∧ Env X.K ws' B0 sl' w' σ3 H4 ∧ whileK js cf b m' nx sl' w' = r := fun {σ3 ws3 sl3 w3 H4} l3 e3 q => by
          obtain ⟨l4, e4⟩ := e3.dropAll js
          exact ⟨m, by omega, ws3, _, w3, (lall.trans l3).trans l4, e4, q⟩
        refine ⟨_, fun σ2 H2 z => z, ws1, B0, sl', w1, _, _, _, e1, ⟨by rw [h'']; exact h.nb, ?_, ?_, ?_, ?_, ?_⟩⟩
        · intro σ3 ws3 sl3 w3 H4 l3 e3 q
          exact nxt l3 e3 (q.trans h'')
        · intro σ3 ws3 sl3 w3 H4 l3 e3 q
          obtain ⟨l4, e4⟩ := e3.dropAll js
          exact h.nx σ3 ws3 _ w3 H4 ((lall.trans l3).trans l4) e4 (q.trans h'')
        · intro σ3 ws3 sl3 w3 H4 l3 e3 q
          exact nxt l3 e3 (q.trans h'')
        · intro d w3 q σ3 ws3 sl3 H4 v l3 e3 hv
          exact h.rt d w3 (h''.symm.trans q) σ3 ws3 sl3 H4 v (lall.trans l3) e3 hv
        · intro c w3 q σ3 ws3 sl3 H4 C hC l3 e3
          exact h.ex c w3 (h''.symm.trans q) σ3 ws3 sl3 H4 C hC (lall.trans l3) e3
def fWhile {σ α : Type} (c : σ → M Bool) (body : σ → (σ → M α) → M α) : Nat → σ → (σ → M α) → M α
  | 0, _, _ => M.bad
  | n + 1, st, k => fIf (c st) (body st fun st' => fWhile c body n st' k) (k st)
def fWhileB {σ α : Type} (c : σ → M Bool) (body : σ → (σ → M α) → (σ → M α) → M α) : Nat → σ → (σ → M α) → M α
  | 0, _, _ => M.bad
  | n + 1, st, k => fIf (c st) (body st (fun st' => fWhileB c body n st' k) k) (k st)
theorem whileK_eq {ε τ : Type} {js : List Nat} {c : Bn} {b : Sk} {enc : ε → τ → Ls} {cF : ε → τ → M Bool} {bodyF : ε → τ → (τ → M D) → M D} (heqc : ∀ e st, c (enc e st) = cF e st)
    (heq : ∀ e st (k kb : Kn), b (fun sl2 => k (setNo js sl2)) (fun sl2 => kb (setNo js sl2)) (fun sl2 => k (setNo js sl2)) (enc e st) = bodyF e st fun st' => k (enc e st')) (e : ε) (nx : Kn) : ∀ (n : Nat) (st : τ), whileK js c b n nx (enc e st) = fWhile (cF e) (bodyF e) n st fun st' => nx (enc e st')
  | 0, st => rfl
  | n + 1, st => by
    unfold whileK fWhile
    rw [heq e st (fun sl => whileK js c b n nx sl) nx, heqc]
    congr 2
    funext st'
    exact whileK_eq heqc heq e nx n st'
theorem whileKB_eq {ε τ : Type} {js : List Nat} {c : Bn} {b : Sk} {enc : ε → τ → Ls} {cF : ε → τ → M Bool} {bodyF : ε → τ → (τ → M D) → (τ → M D) → M D} (heqc : ∀ e st, c (enc e st) = cF e st)
    (heq : ∀ e st (k kb : Kn), b (fun sl2 => k (setNo js sl2)) (fun sl2 => kb (setNo js sl2)) (fun sl2 => k (setNo js sl2)) (enc e st) = bodyF e st (fun st' => k (enc e st')) (fun st' => kb (enc e st'))) (e : ε) (nx : Kn) : ∀ (n : Nat) (st : τ), whileK js c b n nx (enc e st) = fWhileB (cF e) (bodyF e) n st fun st' => nx (enc e st')
  | 0, st => rfl
  | n + 1, st => by
    unfold whileK fWhileB
    rw [heq e st (fun sl => whileK js c b n nx sl) nx, heqc]
    congr 2
    funext st'
    exact whileKB_eq heqc heq e nx n st'
theorem ms_while {ε τ : Type} {cf : Bn} {b : Sk} (js : List Nat) (n : Nat) (enc : ε → τ → Ls) (vw : Ls → Option (ε × τ)) (cF : ε → τ → M Bool) (bodyF : ε → τ → (τ → M D) → M D) (hp : PassesOwn (model X.prog X.w) X.A X.env X.xe) (hc : PTm X Wx c cf) (hb : PSsm X Wx body b)
    (heqc : ∀ e st, cf (enc e st) = cF e st)
    (heq : ∀ e st (k kb : Kn), b (fun sl2 => k (setNo js sl2)) (fun sl2 => kb (setNo js sl2)) (fun sl2 => k (setNo js sl2)) (enc e st) = bodyF e st fun st' => k (enc e st'))
    (hv : ∀ sl e st, vw sl = some (e, st) → sl = enc e st) :
    PSm X Wx (.While c body [] pos) (fun nx _ _ sl => nVw vw (setNo js sl) fun e st => fWhile (cF e) (bodyF e) n st fun st' => nx (enc e st')) := by
  refine ms_eqv (ms_while0 js n hp hc hb) fun nx bk ct sl w => ?_
  unfold nVw
  cases q : vw (setNo js sl) with
  | none => exact .inl rfl
  | some z =>
    obtain ⟨e, st⟩ := z
    refine .inr ?_
    simp only
    rw [hv _ _ _ q, whileK_eq heqc heq]
theorem ms_whileB {ε τ : Type} {cf : Bn} {b : Sk} (js : List Nat) (n : Nat) (enc : ε → τ → Ls) (vw : Ls → Option (ε × τ)) (cF : ε → τ → M Bool) (bodyF : ε → τ → (τ → M D) → (τ → M D) → M D) (hp : PassesOwn (model X.prog X.w) X.A X.env X.xe) (hc : PTm X Wx c cf) (hb : PSsm X Wx body b)
    (heqc : ∀ e st, cf (enc e st) = cF e st)
    (heq : ∀ e st (k kb : Kn), b (fun sl2 => k (setNo js sl2)) (fun sl2 => kb (setNo js sl2)) (fun sl2 => k (setNo js sl2)) (enc e st) = bodyF e st (fun st' => k (enc e st')) (fun st' => kb (enc e st')))
    (hv : ∀ sl e st, vw sl = some (e, st) → sl = enc e st) :
    PSm X Wx (.While c body [] pos) (fun nx _ _ sl => nVw vw (setNo js sl) fun e st => fWhileB (cF e) (bodyF e) n st fun st' => nx (enc e st')) := by
  refine ms_eqv (ms_while0 js n hp hc hb) fun nx bk ct sl w => ?_
  unfold nVw
  cases q : vw (setNo js sl) with
  | none => exact .inl rfl
  | some z =>
    obtain ⟨e, st⟩ := z
    refine .inr ?_
    simp only
    rw [hv _ _ _ q, whileKB_eq heqc heq]
end
end Pm
namespace Pm
open PySem PySem.Spec PyProof.Rows L2


abbrev W0 : WX := fun _ _ _ _ => False
def noOw (vs : List Nat) (sl : Ls) : Bool := vs.all fun j => match sl[j]? with
  | some (.ow _) => false
  | _ => true
def noEx {α : Type} (m : M α) : M α := fun w => match m w with
  | .ex _ _ => .bad
  | r => r
section
variable {α β : Type}
@[simp] theorem noEx_pure (a : α) : noEx (M.pure a) = M.pure a := rfl
@[simp] theorem noEx_bad : noEx (M.bad : M α) = M.bad := rfl
theorem noEx_ok {m : M α} {w w' : W} {a : α} (h : noEx m w = .ok a w') : m w = .ok a w' := by
  unfold noEx at h
  cases q : m w with
  | ex c w1 => rw [q] at h; cases h
  | bad => rw [q] at h; cases h
  | ok b w1 => rw [q] at h; exact h
theorem noEx_ex {m : M α} {w w' : W} {c : Str} : noEx m w ≠ .ex c w' := by
  unfold noEx
  cases q : m w <;> simp
end
def fMapM (f : D → M D) : List D → M (List D)
  | [] => M.pure []
  | x :: xs => (noEx (f x)).bind fun a => (fMapM f xs).bind fun r => M.pure (a :: r)
def fFltM (f : D → M (Option D)) : List D → M (List D)
  | [] => M.pure []
  | x :: xs => (noEx (f x)).bind fun a => (fFltM f xs).bind fun r => M.pure (a.toList ++ r)
def fCatM (f : D → M (List D)) : List D → M (List D)
  | [] => M.pure []
  | x :: xs => (noEx (f x)).bind fun a => (fCatM f xs).bind fun r => M.pure (a ++ r)
theorem bind_okE {α β : Type} {m : M α} {k : α → M β} {w w' : W} {b : β} (h : M.bind m k w = .ok b w') : ∃ a w1, m w = .ok a w1 ∧ k a w1 = .ok b w' := by
  unfold M.bind at h
  cases q : m w with
  | ex c w1 => rw [q] at h; cases h
  | bad => rw [q] at h; cases h
  | ok a w1 => rw [q] at h; exact ⟨a, w1, rfl, h⟩
theorem setNo_get : ∀ {vs : List Nat} {sl : Ls} {j : Nat} {x : Sl}, (setNo vs sl)[j]? = some x → (j ∈ vs ∧ x = .no) ∨ (j ∉ vs ∧ sl[j]? = some x)
  | [], sl, j, x, h => .inr ⟨by simp, h⟩
  | v :: vs, sl, j, x, h => by
    rcases setNo_get (vs := vs) h with ⟨m, z⟩ | ⟨m, z⟩
    · exact .inl ⟨by simp [m], z⟩
    · rcases get_set z with ⟨rfl, q, _⟩ | ⟨n, q⟩
      · exact .inl ⟨by simp, q⟩
      · exact .inr ⟨by simp [n, m], q⟩
theorem setNo_len : ∀ (vs : List Nat) (sl : Ls), (setNo vs sl).length = sl.length
  | [], sl => rfl
  | v :: vs, sl => by rw [setNo, setNo_len vs, List.length_set]
theorem setNo_out : ∀ {vs : List Nat} {sl : Ls} {j : Nat}, j ∉ vs → (setNo vs sl)[j]? = sl[j]?
  | [], sl, j, _ => rfl
  | v :: vs, sl, j, h => by
    simp only [List.mem_cons, not_or] at h
    rw [setNo, setNo_out h.2, List.getElem?_set_ne (Ne.symm h.1)]
theorem wipe_not {σ : L2.St} {vs : List Nat} {j : Nat} (h : j ∉ vs) : (wipe σ vs)[j]? = σ[j]? := wipe_out h
section
variable {K : PySem.W.Frag} {ws ws' : Wa} {B0 : Addr → Prop} {sl sl2 : Ls} {w w' : W} {σ σ2 : L2.St} {H H' : Hp} {vs : List Nat}
theorem own_wipe {a : Addr} (h : Own (setNo vs sl) (wipe σ vs) a) : Own sl σ a := by
  obtain ⟨j, d, h1, h2⟩ := h
  rcases setNo_get h1 with ⟨_, z⟩ | ⟨n, h1⟩
  · cases z
  · rw [wipe_not n] at h2
    exact ⟨j, d, h1, h2⟩
theorem Env.wipe (e : Env K ws B0 sl w σ H) : Le ws (Own sl σ) H ws (Own (setNo vs sl) (L2.wipe σ vs)) H ∧ Env K ws B0 (setNo vs sl) w (L2.wipe σ vs) H := by
  have l : Le ws (Own sl σ) H ws (Own (setNo vs sl) (L2.wipe σ vs)) H := ⟨ws.le_refl, fun _ h => .inl h, fun a h => .inl (own_wipe h), fun _ _ h _ _ => h, fun _ h => h⟩
  refine ⟨l, ⟨by rw [setNo_len, wipe_length]; exact e.len, e.wr, e.bx, e.dom, fun j d h => ?_, fun j d h => ?_, fun j k d d' a h1 h2 h3 h4 => ?_⟩⟩
  · rcases setNo_get h with ⟨_, z⟩ | ⟨n, h⟩
    · cases z
    · obtain ⟨v, q1, q2⟩ := e.va j d h
      exact ⟨v, by rw [wipe_not n]; exact q1, q2.le l⟩
  · rcases setNo_get h with ⟨_, z⟩ | ⟨n, h⟩
    · cases z
    · obtain ⟨a, q1, q2, q3⟩ := e.ow j d h
      exact ⟨a, by rw [wipe_not n]; exact q1, q2.le l fun _ z => z, q3⟩
  · rcases setNo_get h1 with ⟨_, z⟩ | ⟨n1, h1⟩
    · cases z
    · rcases setNo_get h2 with ⟨_, z⟩ | ⟨n2, h2⟩
      · cases z
      · rw [wipe_not n1] at h3
        rw [wipe_not n2] at h4
        exact e.uq j k d d' a h1 h2 h3 h4
theorem noOw_of {j : Nat} {d : D} (hv : noOw vs sl = true) (h : sl[j]? = some (.ow d)) : j ∉ vs := fun hj => by
  have := List.all_eq_true.mp hv j hj
  rw [h] at this
  cases this
theorem Env.back {B' : Addr → Prop} (e : Env K ws B0 sl w σ H) (hB : ∀ a, B' a → B0 a ∨ H a = none) (hv : noOw vs sl = true) (l : Le ws (Own sl σ) H ws' (Own sl2 σ2) H') (e' : Env K ws' B' sl2 w' σ2 H') (hw : L2.wipe σ2 vs = L2.wipe σ vs) (hs : ∀ j, j ∉ vs → sl2[j]? = sl[j]?) :
    Le ws (Own sl σ) H ws' (Own sl σ) H' ∧ Env K ws' B' sl w' σ H' ∧ Le ws' (Own sl2 σ2) H' ws' (Own sl σ) H' := by
  have out : ∀ {j : Nat}, j ∉ vs → σ2[j]? = σ[j]? := fun n => by rw [← wipe_not n (σ := σ2), hw, wipe_not n]
  have hO : ∀ a, Own sl σ a → Own sl2 σ2 a := fun a ⟨j, d, h1, h2⟩ => by
    have n := noOw_of hv h1
    exact ⟨j, d, by rw [hs j n]; exact h1, by rw [out n]; exact h2⟩
  have l' : Le ws (Own sl σ) H ws' (Own sl σ) H' := ⟨l.wle, l.new, fun a h => .inl h, l.keep, l.ex⟩
  have l2 : Le ws' (Own sl2 σ2) H' ws' (Own sl σ) H' := ⟨ws'.le_refl, fun _ h => .inl h, fun a h => .inl (hO a h), fun _ _ h _ _ => h, fun _ h => h⟩
  refine ⟨l', ⟨e.len, e'.wr, e'.bx, e'.dom, fun j d h => ?_, fun j d h => ?_, e.uq⟩, l2⟩
  · obtain ⟨v, q1, q2⟩ := e.va j d h
    exact ⟨v, q1, q2.more hB l'⟩
  · have n := noOw_of hv h
    obtain ⟨a, q1, q2, q3⟩ := e'.ow j d (by rw [hs j n]; exact h)
    exact ⟨a, by rw [← out n]; exact q1, q2.le l2 fun _ z => z, q3⟩
theorem Env.more {B' : Addr → Prop} (e : Env K ws B0 sl w σ H) (hB : ∀ a, B' a → B0 a ∨ (H' a ≠ none ∧ H a = none)) (hX : ∀ a, B' a → B0 a ∨ BxO (H' a)) (g : Grow H H') : Env K ws B' sl w σ H' := by
  have hb : ∀ a, B' a → B0 a ∨ H a = none := fun a z => (hB a z).imp id fun q => q.2
  have l : Le ws (Own sl σ) H ws (Own sl σ) H' := g.le ws _
  refine ⟨e.len, e.wr.grow g, fun a h => ?_, fun a h z => ?_, fun j d h => ?_, fun j d h => ?_, e.uq⟩
  · have old := e.bx.keep (H' := H') e.dom (fun _ z => .inl z) fun a o _ z => g a o z
    rcases hX a h with q | q
    · exact old a q
    · rcases hB a h with y | y
      · exact old a y
      · exact ⟨fun z => e.wd a z y.2, q⟩
  · rcases hB a h with q | q
    · exact e.dom a q (g.ex a z)
    · exact q.1 z
  · obtain ⟨v, q1, q2⟩ := e.va j d h
    exact ⟨v, q1, q2.more hb l⟩
  · obtain ⟨a, q1, q2, q3, q4⟩ := e.ow j d h
    refine ⟨a, q1, ?_, q3, fun z => ?_⟩
    · cases d <;> first
        | exact q2.elim
        | (obtain ⟨vs, r1, r2, r3⟩ := q2; exact ⟨vs, g _ _ r1, r2, r3.more hb l⟩)
    · rcases hb a z with q | q
      · exact q4 q
      · exact q2.there q
theorem upd_ex {H : Hp} {a : Addr} {o : HO} (h : H a ≠ none) : ∀ b, upd H a o b = none → H b = none := fun b z => by
  by_cases q : b = a
  · subst q; rw [upd_same] at z; cases z
  · rw [upd_ne q] at z; exact z
theorem Env.setB {a : Addr} {o : HO} (e : Env K ws B0 sl w σ H) (hb : B0 a) (hn : ¬ ws.has a) (hx : BxO (H a)) (ho : BxO (some o)) : Env K ws B0 sl w σ (upd H a o) := by
  have ha := e.dom a hb
  have hk : ∀ b u, H b = some u → ¬ Bad ws B0 sl σ b → upd H a o b = some u := fun b u h n => by rw [upd_ne (fun z => n (by rw [z]; exact .inr (.inl hb)))]; exact h
  have hx1 := upd_ex (o := o) ha
  refine ⟨e.len, ?_, fun b h => ⟨(e.bx b h).1, ?_⟩, fun b h z => e.dom b h (hx1 b z), fun j d h => ?_, fun j d h => ?_, e.uq⟩
  · exact e.wr.upd hn hx
  · by_cases q : b = a
    · subst q; rw [upd_same]; exact ho
    · rw [upd_ne q]; exact (e.bx b h).2
  · obtain ⟨v, q1, q2⟩ := e.va j d h
    exact ⟨v, q1, q2.keep ws.le_refl hk fun _ z => .inl z⟩
  · obtain ⟨b, q1, q2, q3, q4⟩ := e.ow j d h
    have hba : b ≠ a := fun z => q4 (by rw [z]; exact hb)
    refine ⟨b, q1, ?_, q3, q4⟩
    cases d <;> first
      | exact q2.elim
      | (obtain ⟨vs, r1, r2, r3⟩ := q2; exact ⟨vs, by rw [upd_ne hba]; exact r1, r2, r3.keep ws.le_refl hk fun _ z => .inl z⟩)
theorem Env.fewer {B' : Addr → Prop} (e : Env K ws B' sl w σ H) (hB : ∀ a, B0 a → B' a) : Env K ws B0 sl w σ H := by
  have hb : ∀ a, Bad ws B0 sl σ a → Bad ws B' sl σ a ∨ H a = none := fun a z => .inl (z.imp id fun q => q.imp (hB a) id)
  refine ⟨e.len, e.wr, fun a h => e.bx a (hB a h), fun a h => e.dom a (hB a h), fun j d h => ?_, fun j d h => ?_, e.uq⟩
  · obtain ⟨v, q1, q2⟩ := e.va j d h
    exact ⟨v, q1, q2.keep ws.le_refl (fun _ _ z _ => z) hb⟩
  · obtain ⟨a, q1, q2, q3, q4⟩ := e.ow j d h
    refine ⟨a, q1, ?_, q3, fun z => q4 (hB a z)⟩
    cases d <;> first
      | exact q2.elim
      | (obtain ⟨vs, r1, r2, r3⟩ := q2; exact ⟨vs, r1, r2, r3.keep ws.le_refl (fun _ _ z _ => z) hb⟩)
theorem Env.adopt {ws0 : Wa} {sl0 : Ls} {σ0 : L2.St} {H0 : Hp} {D0 : Addr} {o : HO} {d : D} {i : Nat} (e : Env K ws (fun a => B0 a ∨ a = D0) sl w σ H) (hn : H0 D0 = none) (ho : H D0 = some o) (nb : ¬ Bad ws B0 sl σ D0) (l : Le ws0 (Own sl0 σ0) H0 ws (Own sl σ) H)
    (hd : ON K ws (Bad ws (fun a => B0 a ∨ a = D0) sl σ) H o d) : Le ws0 (Own sl0 σ0) H0 ws (Own (sl.set i (.ow d)) (σ.set i (some (.ref D0)))) H ∧ Env K ws B0 (sl.set i (.ow d)) w (σ.set i (some (.ref D0))) H := by
  have hO : ∀ a, Own (sl.set i (.ow d)) (σ.set i (some (.ref D0))) a → Own sl σ a ∨ a = D0 := fun a ⟨j, dj, h1, h2⟩ => by
    rcases get_set h1 with ⟨rfl, z, hl⟩ | ⟨n, h1⟩
    · rw [List.getElem?_set_self (by rw [← e.len]; exact hl)] at h2
      cases h2; exact .inr rfl
    · rw [List.getElem?_set_ne (Ne.symm n)] at h2
      exact .inl ⟨j, dj, h1, h2⟩
  have hb : ∀ a, Bad ws B0 (sl.set i (.ow d)) (σ.set i (some (.ref D0))) a → Bad ws (fun a => B0 a ∨ a = D0) sl σ a ∨ H a = none := fun a z => by
    rcases z with z | z | z
    · exact .inl (.inl z)
    · exact .inl (.inr (.inl (.inl z)))
    · rcases hO a z with z | z
      · exact .inl (.inr (.inr z))
      · exact .inl (.inr (.inl (.inr z)))
  have kp : ∀ {vs : List V} {ds : List D}, DRs K ws (Bad ws (fun a => B0 a ∨ a = D0) sl σ) H vs ds → DRs K ws (Bad ws B0 (sl.set i (.ow d)) (σ.set i (some (.ref D0)))) H vs ds := fun r => r.keep ws.le_refl (fun _ _ z _ => z) hb
  refine ⟨⟨l.wle, l.new, fun a z => ?_, l.keep, l.ex⟩, ⟨?_, e.wr, fun a h => e.bx a (.inl h), fun a h => e.dom a (.inl h), fun j dj hj => ?_, fun j dj hj => ?_, fun j k dj dk a hj hk ha hb' => ?_⟩⟩
  · rcases hO a z with z | z
    · exact l.own a z
    · rw [z]; exact .inr hn
  · rw [List.length_set, List.length_set]; exact e.len
  · rcases get_set hj with ⟨rfl, z, hl⟩ | ⟨n, hj⟩
    · cases z
    · obtain ⟨u, h1, h2⟩ := e.va j dj hj
      exact ⟨u, by rw [List.getElem?_set_ne (Ne.symm n)]; exact h1, h2.keep ws.le_refl (fun _ _ z _ => z) hb⟩
  · rcases get_set hj with ⟨rfl, z, hl⟩ | ⟨n, hj⟩
    · cases z
      refine ⟨D0, by rw [List.getElem?_set_self (by rw [← e.len]; exact hl)], ?_, fun z => nb (.inl z), fun z => nb (.inr (.inl z))⟩
      cases d <;> first
        | exact hd.elim
        | (obtain ⟨vs, rfl, r2, r3⟩ := hd; exact ⟨vs, ho, r2, kp r3⟩)
    · obtain ⟨a, h1, h2, h3, h4⟩ := e.ow j dj hj
      refine ⟨a, by rw [List.getElem?_set_ne (Ne.symm n)]; exact h1, ?_, h3, fun z => h4 (.inl z)⟩
      cases dj <;> first
        | exact h2.elim
        | (obtain ⟨vs, r1, r2, r3⟩ := h2; exact ⟨vs, r1, r2, kp r3⟩)
  · have old : ∀ {q : Nat} {dq : D}, sl[q]? = some (.ow dq) → σ[q]? ≠ some (some (.ref D0)) := fun {q dq} h1 h2 => nb (.inr (.inr ⟨q, dq, h1, h2⟩))
    rcases get_set hj with ⟨rfl, z, hl⟩ | ⟨n1, hj'⟩
    · rw [List.getElem?_set_self (by rw [← e.len]; exact hl)] at ha
      cases ha
      rcases get_set hk with ⟨rfl, z, _⟩ | ⟨n2, hk'⟩
      · rfl
      · rw [List.getElem?_set_ne (Ne.symm n2)] at hb'
        exact absurd hb' (old hk')
    · rw [List.getElem?_set_ne (Ne.symm n1)] at ha
      rcases get_set hk with ⟨rfl, z, hl⟩ | ⟨n2, hk'⟩
      · rw [List.getElem?_set_self (by rw [← e.len]; exact hl)] at hb'
        cases hb'
        exact absurd ha (old hj')
      · rw [List.getElem?_set_ne (Ne.symm n2)] at hb'
        exact e.uq j k dj dk a hj' hk' ha hb'
theorem out_wipe {ts : List Nat} (ho : Out ts (L2.wipe σ vs) σ2) (hts : ∀ j ∈ ts, j ∈ vs) : L2.wipe σ2 vs = L2.wipe σ vs := by
  apply List.ext_getElem?
  intro j
  by_cases hj : j ∈ vs
  · have len : (L2.wipe σ2 vs).length = (L2.wipe σ vs).length := by rw [wipe_length, ho.1]
    cases q : (L2.wipe σ2 vs)[j]? with
    | none =>
      rw [List.getElem?_eq_none_iff] at q
      exact (List.getElem?_eq_none_iff.mpr (by omega)).symm
    | some x =>
      cases q2 : (L2.wipe σ vs)[j]? with
      | none =>
        rw [List.getElem?_eq_none_iff] at q2
        have := (List.getElem?_eq_some_iff.mp q).1
        omega
      | some y =>
        cases x with
        | some v => exact absurd hj (wipe_some q).2
        | none =>
          cases y with
          | some v => exact absurd hj (wipe_some q2).2
          | none => rfl
  · rw [wipe_not hj, wipe_not hj, ho.2 j (fun z => hj (hts j z)), wipe_not hj]
end

section
variable (K : PySem.W.Frag) (B' : Addr → Prop) (D0 : Addr) (sl : Ls) (σ : L2.St) (ws0 : Wa) (O0 : Addr → Prop) (H0 : Hp)
structure CAt (ws : Wa) (w : W) (as : List D) (H : Hp) : Prop where
  le : Le ws0 O0 H0 ws (Own sl σ) H
  env : Env K ws B' sl w σ H
  nD : ¬ ws.has D0
  acc : ∃ vl, H D0 = some (.lst vl) ∧ DRs K ws (Bad ws B' sl σ) H vl as
end
inductive Rem (T : D → W → List D → W → Prop) : List D → W → List D → W → Prop
  | nil {w : W} : Rem T [] w [] w
  | cons {x : D} {xs : List D} {w w1 wF : W} {a r : List D} : T x w a w1 → Rem T xs w1 r wF → Rem T (x :: xs) w (a ++ r) wF
section
variable {K : PySem.W.Frag} {B' : Addr → Prop} {D0 : Addr} {sl : Ls} {σ : L2.St} {ws0 : Wa} {O0 : Addr → Prop} {H0 : Hp}
theorem CAt.grow {ws : Wa} {w : W} {as : List D} {H H' : Hp} (g : Grow H H') (c : CAt K B' D0 sl σ ws0 O0 H0 ws w as H) : CAt K B' D0 sl σ ws0 O0 H0 ws w as H' :=
  ⟨c.le.trans (g.le _ _), c.env.grow g, c.nD, let ⟨vl, h1, h2⟩ := c.acc; ⟨vl, g _ _ h1, h2.grow g⟩⟩
theorem loop_go {T : D → W → List D → W → Prop} {items pre ds : List D} {w1 wF : W} {J : It} {ws1 : Wa} {H1 : Hp} {Fin : Hp → Prop} {STEP : V → Hp → (Hp → Prop) → Prop} (hrem : Rem T items w1 ds wF)
    (hJ : ∀ ws w as H, CAt K B' D0 sl σ ws0 O0 H0 ws w as H → JOk K ws (Bad ws B' sl σ) J items H) (h0 : CAt K B' D0 sl σ ws0 O0 H0 ws1 w1 pre H1)
    (fin : ∀ ws H, CAt K B' D0 sl σ ws0 O0 H0 ws wF (pre ++ ds) H → Fin H)
    (step : ∀ ws w as H v x a w2 rest (Nx : Hp → Prop), CAt K B' D0 sl σ ws0 O0 H0 ws w as H → DR K ws (Bad ws B' sl σ) H v x → T x w a w2 → as ++ (a ++ rest) = pre ++ ds → (∀ ws' H', CAt K B' D0 sl σ ws0 O0 H0 ws' w2 (as ++ a) H' → Nx H') → STEP v H Nx) :
    ∃ W : Nat → Nat → Hp → Prop, (∃ m, W 0 m H1) ∧ ∀ i m H, W i m H → (J.stop i H ∧ Fin H) ∨ (J.go i H ∧ ∃ Nx : Hp → Prop, (∀ H', Nx H' → ∃ m', m' < m ∧ W (i + 1) m' H') ∧ ∀ x H', J.yld i H x H' → STEP x H' Nx) := by
  refine ⟨fun i m H => m = items.length - i ∧ ∃ ws w as r, CAt K B' D0 sl σ ws0 O0 H0 ws w as H ∧ Rem T (items.drop i) w r wF ∧ as ++ r = pre ++ ds, ⟨_, rfl, ws1, w1, pre, ds, h0, hrem, rfl⟩, ?_⟩
  rintro i m H ⟨rfl, ws, w, as, r, c, hr, hds⟩
  have hj := hJ ws w as H c i
  by_cases hi : i < items.length
  · have hd : items[i]? = some items[i] := by simp [hi]
    rw [List.drop_eq_getElem_cons hi] at hr
    obtain ⟨hgo, hy⟩ := hj.1 _ hd
    cases hr with
    | @cons _ _ _ w2 _ a r' hT hr' =>
      refine .inr ⟨hgo, fun H' => ∃ m', m' < items.length - i ∧ m' = items.length - (i + 1) ∧ ∃ ws w as r, CAt K B' D0 sl σ ws0 O0 H0 ws w as H' ∧ Rem T (items.drop (i + 1)) w r wF ∧ as ++ r = pre ++ ds, fun H' z => z, fun x H' hyl => ?_⟩
      obtain ⟨gr, hx⟩ := hy x H' hyl
      exact step ws w as H' x _ a w2 r' _ (c.grow gr) hx hT hds fun ws' H'' c' => ⟨_, by omega, rfl, ws', w2, as ++ a, r', c', hr', by rw [List.append_assoc]; exact hds⟩
  · rw [List.drop_of_length_le (by omega)] at hr
    cases hr
    rw [List.append_nil] at hds
    subst hds
    exact .inl ⟨hj.2 (by omega), fin ws H c⟩
theorem CAt.push {ws : Wa} {w : W} {as : List D} {H : Hp} {v : V} {d : D} (hB : B' D0) (hn0 : H0 D0 = none ∨ O0 D0) (c : CAt K B' D0 sl σ ws0 O0 H0 ws w as H) (hd : DR K ws (Bad ws B' sl σ) H v d) (hz : as.length < sizeLine) : ∃ acc, H D0 = some (.lst acc) ∧ acc.length < sizeLine ∧ CAt K B' D0 sl σ ws0 O0 H0 ws w (as ++ [d]) (upd H D0 (.lst (acc ++ [v]))) := by
  obtain ⟨vl, h1, h2⟩ := c.acc
  have hk : ∀ b u, H b = some u → ¬ Bad ws B' sl σ b → upd H D0 (.lst (vl ++ [v])) b = some u := fun b u h n => by
    rw [upd_ne (fun z => n (.inr (.inl (by rw [z]; exact hB))))]; exact h
  have hx := upd_ex (o := .lst (vl ++ [v])) (sm h1)
  have hall := h2.append (.one hd)
  refine ⟨vl, h1, by rw [h2.length]; exact hz, ⟨⟨c.le.wle, c.le.new, c.le.own, fun b u q1 q2 q3 => ?_, fun b z => c.le.ex b (hx b z)⟩, c.env.setB hB c.nD (by rw [h1]; trivial) trivial, c.nD, _, upd_same, hall.keep ws.le_refl hk fun _ z => .inl z⟩⟩
  rw [upd_ne (fun z => by
    rcases hn0 with hn0 | hn0
    · rw [z, hn0] at q1; cases q1
    · exact q3 (by rw [z]; exact hn0))]
  exact c.le.keep b u q1 q2 q3
end
section
variable {X : Cx}
end

def T1 (vs : List Nat) (p : Gk) (f : Dn) (sl : Ls) (x : D) (w : W) (a : List D) (w1 : W) : Prop := ∃ d, a = [d] ∧ p D x (fun sl1 => f sl1) (setNo vs sl) w = .ok d w1
def T2 (vs : List Nat) (p : Gk) (c : Bn) (f : Dn) (sl : Ls) (x : D) (w : W) (a : List D) (w1 : W) : Prop := ∃ o : Option D, a = o.toList ∧ p (Option D) x (fun sl1 => fIf (c sl1) ((f sl1).bind fun d => M.pure (some d)) (M.pure none)) (setNo vs sl) w = .ok o w1
theorem rem_map {F : D → M D} {T : D → W → List D → W → Prop} (hT : ∀ x w d w1, F x w = .ok d w1 → T x w [d] w1) : ∀ {items ds : List D} {w wF : W}, fMapM F items w = .ok ds wF → Rem T items w ds wF ∧ ds.length = items.length
  | [], ds, w, wF, h => by cases h; exact ⟨.nil, rfl⟩
  | x :: xs, ds, w, wF, h => by
    obtain ⟨a, w1, h1, h2⟩ := bind_okE h
    obtain ⟨r, w2, h3, h4⟩ := bind_okE h2
    cases h4
    obtain ⟨r1, r2⟩ := rem_map hT h3
    exact ⟨.cons (a := [a]) (hT _ _ _ _ (noEx_ok h1)) r1, by simp [r2]⟩
theorem rem_flt {F : D → M (Option D)} {T : D → W → List D → W → Prop} (hT : ∀ x w o w1, F x w = .ok o w1 → T x w o.toList w1) : ∀ {items ds : List D} {w wF : W}, fFltM F items w = .ok ds wF → Rem T items w ds wF ∧ ds.length ≤ items.length
  | [], ds, w, wF, h => by cases h; exact ⟨.nil, Nat.le_refl _⟩
  | x :: xs, ds, w, wF, h => by
    obtain ⟨a, w1, h1, h2⟩ := bind_okE h
    obtain ⟨r, w2, h3, h4⟩ := bind_okE h2
    cases h4
    obtain ⟨r1, r2⟩ := rem_flt hT h3
    refine ⟨.cons (hT _ _ _ _ (noEx_ok h1)) r1, ?_⟩
    cases a <;> simp <;> omega
theorem rem_cat {F : D → M (List D)} {T : D → W → List D → W → Prop} (hT : ∀ x w o w1, F x w = .ok o w1 → T x w o w1) : ∀ {items ds : List D} {w wF : W}, fCatM F items w = .ok ds wF → Rem T items w ds wF
  | [], ds, w, wF, h => by cases h; exact .nil
  | x :: xs, ds, w, wF, h => by
    obtain ⟨a, w1, h1, h2⟩ := bind_okE h
    obtain ⟨r, w2, h3, h4⟩ := bind_okE h2
    cases h4
    exact .cons (hT _ _ _ _ (noEx_ok h1)) (rem_cat hT h3)
theorem map_noex {F : D → M D} : ∀ {items : List D} {w w' : W} {c : Str}, fMapM F items w ≠ .ex c w'
  | [], w, w', c, h => by cases h
  | x :: xs, w, w', c, h => by
    unfold fMapM M.bind at h
    cases q : noEx (F x) w with
    | ex c w1 => exact noEx_ex q
    | bad => rw [q] at h; cases h
    | ok a w1 =>
      rw [q] at h
      simp only at h
      cases q2 : fMapM F xs w1 with
      | ex c w1 => exact map_noex q2
      | bad => rw [q2] at h; cases h
      | ok a w1 => rw [q2] at h; cases h
theorem flt_noex {F : D → M (Option D)} : ∀ {items : List D} {w w' : W} {c : Str}, fFltM F items w ≠ .ex c w'
  | [], w, w', c, h => by cases h
  | x :: xs, w, w', c, h => by
    unfold fFltM M.bind at h
    cases q : noEx (F x) w with
    | ex c w1 => exact noEx_ex q
    | bad => rw [q] at h; cases h
    | ok a w1 =>
      rw [q] at h
      simp only at h
      cases q2 : fFltM F xs w1 with
      | ex c w1 => exact flt_noex q2
      | bad => rw [q2] at h; cases h
      | ok a w1 => rw [q2] at h; cases h
theorem cat_noex {F : D → M (List D)} : ∀ {items : List D} {w w' : W} {c : Str}, fCatM F items w ≠ .ex c w'
  | [], w, w', c, h => by cases h
  | x :: xs, w, w', c, h => by
    unfold fCatM M.bind at h
    cases q : noEx (F x) w with
    | ex c w1 => exact noEx_ex q
    | bad => rw [q] at h; cases h
    | ok a w1 =>
      rw [q] at h
      simp only at h
      cases q2 : fCatM F xs w1 with
      | ex c w1 => exact cat_noex q2
      | bad => rw [q2] at h; cases h
      | ok a w1 => rw [q2] at h; cases h
section
variable {K : PySem.W.Frag} {mg : Str → Option Value} {Wx : WX} {ws1 : Wa} {B0 : Addr → Prop} {sl : Ls} {w1 wF : W} {σ : L2.St} {H1 : Hp} {vs ts : List Nat} {p : Gk} {c : Bn} {f : Dn} {items ds : List D} {J : It} {Q : VK}
theorem comp_go {T : D → W → List D → W → Prop} {STEP : Addr → V → Hp → (Hp → Prop) → Prop} (e1 : Env K ws1 B0 sl w1 σ H1) (hrem : Rem T items w1 ds wF) (hz : ds.length ≤ sizeLine)
    (hJ : ∀ ws' (B' : Addr → Prop) H', ws1.le ws' → (∀ a o, H1 a = some o → ¬ Bad ws1 B0 sl σ a → H' a = some o) → (∀ a, B' a → Bad ws1 B0 sl σ a ∨ H1 a = none) → (∀ a, B' a → H' a ≠ none) → JOk K ws' B' J items H')
    (D0 : Addr) (hD : H1 D0 = none)
    (step : ∀ ws w as H v x a w2 rest (Nx : Hp → Prop), CAt K (fun a => B0 a ∨ a = D0) D0 sl σ ws1 (Own sl σ) H1 ws w as H → DR K ws (Bad ws (fun a => B0 a ∨ a = D0) sl σ) H v x → T x w a w2 → (as ++ (a ++ rest)).length ≤ sizeLine → (∀ ws' H', CAt K (fun a => B0 a ∨ a = D0) D0 sl σ ws1 (Own sl σ) H1 ws' w2 (as ++ a) H' → Nx H') → STEP D0 v H Nx)
    (fin : ∀ ws' H' vl, H' D0 = some (.lst vl) → ¬ ws'.has D0 → Le ws1 (Own sl σ) H1 ws' (Own sl σ) H' → Env K ws' (fun a => B0 a ∨ a = D0) sl wF σ H' → DRs K ws' (Bad ws' (fun a => B0 a ∨ a = D0) sl σ) H' vl ds → Q (.ref D0) H') :
    ∃ W : Nat → Nat → Hp → Prop, (∃ m, W 0 m (upd H1 D0 (.lst []))) ∧ ∀ i m H, W i m H → (J.stop i H ∧ Q (.ref D0) H) ∨ (J.go i H ∧ ∃ Nx : Hp → Prop, (∀ H', Nx H' → ∃ m', m' < m ∧ W (i + 1) m' H') ∧ ∀ x H', J.yld i H x H' → STEP D0 x H' Nx) := by
  have gD := Grow.new (o := .lst []) hD
  have hB' : ∀ a, (B0 a ∨ a = D0) → B0 a ∨ (upd H1 D0 (.lst []) a ≠ none ∧ H1 a = none) := fun a z => z.imp id fun q => by subst q; exact ⟨sm upd_same, hD⟩
  refine loop_go (pre := []) (Fin := fun H => Q (.ref D0) H) (STEP := STEP D0) hrem (fun ws w as H c => ?_) (⟨gD.le _ _, e1.more hB' (fun a z => z.imp id fun q => by rw [q, upd_same]; trivial) gD, fun z => e1.wd D0 z hD, [], upd_same, .nil⟩ : CAt K (fun a => B0 a ∨ a = D0) D0 sl σ ws1 (Own sl σ) H1 ws1 w1 [] (upd H1 D0 (.lst []))) (fun ws H c => ?_) fun ws w as H v x a w2 rest Nx cc hd hT hl hnx => step ws w as H v x a w2 rest Nx cc hd hT (by rw [hl]; exact hz) hnx
  · exact hJ ws _ H c.le.wle c.le.kp (bad_more (fun a z => z.imp id fun q => by rw [q]; exact hD) c.le) c.env.bad
  · obtain ⟨vl, h1, h2⟩ := c.acc
    exact fin ws H vl h1 c.nD c.le c.env h2
theorem CAt.nO {B' : Addr → Prop} {D0 : Addr} {ws0 ws : Wa} {O0 : Addr → Prop} {H0 H : Hp} {w : W} {as : List D} (hBD : B' D0) (c : CAt K B' D0 sl σ ws0 O0 H0 ws w as H) : ¬ Own sl σ D0 := fun ⟨j, dj, z1, z2⟩ => by
  obtain ⟨a, y1, y2, y3, y4⟩ := c.env.ow j dj z1
  rw [z2] at y1
  cases y1
  exact y4 hBD
theorem CAt.after {B' : Addr → Prop} {D0 : Addr} {ws0 ws ws' : Wa} {O0 : Addr → Prop} {H0 H H' : Hp} {w w' : W} {as : List D} {sl' : Ls} {σ' : L2.St} (hBD : B' D0) (c : CAt K B' D0 sl σ ws0 O0 H0 ws w as H) (l : Le ws (Own sl σ) H ws' (Own sl' σ') H') (e : Env K ws' B' sl' w' σ' H') : CAt K B' D0 sl' σ' ws0 O0 H0 ws' w' as H' := by
  obtain ⟨vl, h1, h2⟩ := c.acc
  refine ⟨c.le.trans l, e, fun z => ?_, vl, l.keep D0 _ h1 c.nD (c.nO hBD), h2.le l⟩
  rcases l.new D0 z with q | q
  · exact c.nD q
  · rw [h1] at q; cases q
theorem bind_go {β : Type} {B' : Addr → Prop} {D0 : Addr} {ws0 : Wa} {O0 : Addr → Prop} {H0 : Hp} (hts : ∀ j ∈ ts, j ∈ vs) (hBD : B' D0) {ws : Wa} {w : W} {as : List D} {H : Hp} {v : V} {x : D} {nx : Ls → M β} {Q : L2.St → Hp → Prop}
    (cc : CAt K B' D0 sl σ ws0 O0 H0 ws w as H) (hd : DR K ws (Bad ws B' sl σ) H v x) (nb : p β x nx (setNo vs sl) w ≠ .bad)
    (k : ∀ ws2 sl2 w2 σ2 H2, CAt K B' D0 sl2 σ2 ws0 O0 H0 ws2 w2 as H2 → Le ws (Own sl σ) H ws2 (Own sl2 σ2) H2 → L2.wipe σ2 vs = L2.wipe σ vs → (∀ j, j ∉ vs → sl2[j]? = sl[j]?) → nx sl2 w2 = p β x nx (setNo vs sl) w → Q σ2 H2) : tGm K ts p v (L2.wipe σ vs) H Q := by
  obtain ⟨lw, ew⟩ := cc.env.wipe (vs := vs)
  refine ⟨ws, B', setNo vs sl, w, x, β, nx, ew, hd.le lw, nb, fun σ2 ws2 sl2 w2 H2 o2 u2 l2 e2 z2 => ?_⟩
  exact k ws2 sl2 w2 σ2 H2 (cc.after hBD (lw.trans l2) e2) (lw.trans l2) (out_wipe o2 hts) (fun j hj => by rw [u2 j (fun z => hj (hts j z)), setNo_out hj]) z2
theorem CAt.back {B' : Addr → Prop} {D0 : Addr} {ws0 ws ws2 : Wa} {O0 : Addr → Prop} {H0 H H2 : Hp} {w w2 : W} {as as2 : List D} {sl2 : Ls} {σ2 : L2.St} (hno : noOw vs sl = true) (cc : CAt K B' D0 sl σ ws0 O0 H0 ws w as H) (l : Le ws (Own sl σ) H ws2 (Own sl2 σ2) H2) (c : CAt K B' D0 sl2 σ2 ws0 O0 H0 ws2 w2 as2 H2) (hw : L2.wipe σ2 vs = L2.wipe σ vs) (hs : ∀ j, j ∉ vs → sl2[j]? = sl[j]?) :
    CAt K B' D0 sl σ ws0 O0 H0 ws2 w2 as2 H2 ∧ Le ws2 (Own sl2 σ2) H2 ws2 (Own sl σ) H2 := by
  obtain ⟨l', e', l2⟩ := cc.env.back (fun a z => .inl z) hno l c.env hw hs
  obtain ⟨vl, h1, h2⟩ := c.acc
  exact ⟨⟨c.le.trans l2, e', c.nD, vl, h1, h2.le l2⟩, l2⟩
def tYes : TT := fun _ H Q => Q true H
def STEP1 (K : PySem.W.Frag) (mg : Str → Option Value) (vs ts : List Nat) (p : Gk) (tt : TT) (f : Dn) (σ : L2.St) (D0 : Addr) (v : V) (H : Hp) (Nx : Hp → Prop) : Prop := tGm K ts p v (L2.wipe σ vs) H fun σ2 H2 => L2.wipe σ2 vs = L2.wipe σ vs ∧ tt σ2 H2 fun b H3 =>
        if b = true then tE K mg W0 f σ2 H3 fun y H4 => ∃ acc, H4 D0 = some (.lst acc) ∧ acc.length < sizeLine ∧ Nx (upd H4 D0 (.lst (acc ++ [y]))) else Nx H3
theorem runAt_ok {α : Type} {ws : Wa} {B : Addr → Prop} {H : Hp} {r : Rs α} {a : α} {w' : W} {k : Wa → W → α → Hp → Prop} (q : r = .ok a w') (h : ∀ ws' H', Le ws (Own sl σ) H ws' (Own sl σ) H' → Env K ws' B sl w' σ H' → k ws' w' a H') : runAt K mg Wx ws B sl σ H r k := by subst q; exact h
theorem put_go {B' : Addr → Prop} {D0 : Addr} {ws0 : Wa} {O0 : Addr → Prop} {H0 : Hp} {ws ws2 : Wa} {w w2 w3 : W} {as : List D} {H H2 : Hp} {sl2 : Ls} {σ2 : L2.St} {d : D} {Nx : Hp → Prop} (hBD : B' D0) (hn0 : H0 D0 = none ∨ O0 D0) (hno : noOw vs sl = true) (cc : CAt K B' D0 sl σ ws0 O0 H0 ws w as H) (l2 : Le ws (Own sl σ) H ws2 (Own sl2 σ2) H2) (c2 : CAt K B' D0 sl2 σ2 ws0 O0 H0 ws2 w2 as H2) (hw : L2.wipe σ2 vs = L2.wipe σ vs) (hs : ∀ j, j ∉ vs → sl2[j]? = sl[j]?) (hf : f sl2 w2 = .ok d w3) (hl : as.length < sizeLine)
    (hnx : ∀ ws' H', CAt K B' D0 sl σ ws0 O0 H0 ws' w3 (as ++ [d]) H' → Nx H') : tE K mg W0 f σ2 H2 fun y H4 => ∃ acc, H4 D0 = some (.lst acc) ∧ acc.length < sizeLine ∧ Nx (upd H4 D0 (.lst (acc ++ [y]))) := by
  refine ⟨ws2, B', sl2, w2, c2.env, runAt_ok hf fun ws4 H4 l4 e4 v hv => ?_⟩
  obtain ⟨cb, lb⟩ := CAt.back hno cc (l2.trans l4) (c2.after hBD l4 e4) hw hs
  obtain ⟨acc, h1, h2, h3⟩ := cb.push hBD hn0 (hv.le lb) hl
  exact ⟨acc, h1, h2, hnx _ _ h3⟩
theorem step1 {B' : Addr → Prop} {D0 : Addr} {ws0 : Wa} {O0 : Addr → Prop} {H0 : Hp} (hts : ∀ j ∈ ts, j ∈ vs) (hno : noOw vs sl = true) (hBD : B' D0) (hn0 : H0 D0 = none ∨ O0 D0) {ws w as H v x a w2} {rest : List D} {Nx : Hp → Prop} (cc : CAt K B' D0 sl σ ws0 O0 H0 ws w as H) (hd : DR K ws (Bad ws B' sl σ) H v x) (hT : T1 vs p f sl x w a w2) (hl : (as ++ (a ++ rest)).length ≤ sizeLine)
    (hnx : ∀ ws' H', CAt K B' D0 sl σ ws0 O0 H0 ws' w2 (as ++ a) H' → Nx H') : STEP1 K mg vs ts p tYes f σ D0 v H Nx := by
  obtain ⟨d, rfl, hp⟩ := hT
  refine bind_go hts hBD cc hd (by rw [hp]; exact fun z => by cases z) fun ws2 sl2 w3 σ2 H2 c2 l2 hw hs z => ⟨hw, ?_⟩
  rw [hp] at z
  show tE K mg W0 f σ2 H2 _
  exact put_go hBD hn0 hno cc l2 c2 hw hs z (by simp at hl; omega) hnx
theorem step2 {B' : Addr → Prop} {D0 : Addr} {ws0 : Wa} {O0 : Addr → Prop} {H0 : Hp} (hts : ∀ j ∈ ts, j ∈ vs) (hno : noOw vs sl = true) (hBD : B' D0) (hn0 : H0 D0 = none ∨ O0 D0) {ws w as H v x a w2} {rest : List D} {Nx : Hp → Prop} (cc : CAt K B' D0 sl σ ws0 O0 H0 ws w as H) (hd : DR K ws (Bad ws B' sl σ) H v x) (hT : T2 vs p c f sl x w a w2) (hl : (as ++ (a ++ rest)).length ≤ sizeLine)
    (hnx : ∀ ws' H', CAt K B' D0 sl σ ws0 O0 H0 ws' w2 (as ++ a) H' → Nx H') : STEP1 K mg vs ts p (tT K mg W0 c) f σ D0 v H Nx := by
  obtain ⟨o, rfl, hp⟩ := hT
  refine bind_go hts hBD cc hd (by rw [hp]; exact fun z => by cases z) fun ws2 sl2 w3 σ2 H2 c2 l2 hw hs z => ⟨hw, ?_⟩
  rw [hp] at z
  obtain ⟨b, w4, hc, z⟩ := bind_okE z
  refine ⟨ws2, _, sl2, w3, c2.env, runAt_ok hc fun ws4 H4 l4 e4 => ?_⟩
  have c4 := c2.after hBD l4 e4
  cases b with
  | false =>
    rw [if_neg Bool.false_ne_true] at z
    show Nx H4
    cases z
    have := (CAt.back hno cc (l2.trans l4) c4 hw hs).1
    exact hnx _ _ (by simpa using this)
  | true =>
    rw [if_pos rfl] at z
    obtain ⟨d, w5, hf, z⟩ := bind_okE z
    cases z
    show tE K mg W0 f σ2 H4 _
    exact put_go hBD hn0 hno cc (l2.trans l4) c4 hw hs hf (by simp at hl; omega) hnx
end
theorem DRs.small {K : PySem.W.Frag} {ws : Wa} {B0 : Addr → Prop} {sl : Ls} {σ : L2.St} {H : Hp} {D0 : Addr} {vl : List V} {ds : List D} (r : DRs K ws (Bad ws (fun a => B0 a ∨ a = D0) sl σ) H vl ds) : DRs K ws (Bad ws B0 sl σ) H vl ds :=
  r.keep ws.le_refl (fun _ _ z _ => z) fun a z => .inl (z.imp id fun q => q.imp .inl id)
def fLC (items : M (List D)) (f : D → M D) : M D := items.bind fun l => (fMapM f l).bind fun r => M.pure (.lst r)
def fLCf (items : M (List D)) (f : D → M (Option D)) : M D := items.bind fun l => (fFltM f l).bind fun r => M.pure (.lst r)
def nNo (vs : List Nat) (sl : Ls) (m : M D) : M D := match noOw vs sl with
  | true => m
  | false => M.bad
section
variable {X : Cx} {Wx : WX} {elt tg iter : Expr} {ifs : List Expr} {scope : Scope} {own : List (Str × Nat)} {pos : Pos} {it : An} {p : Gk} {c : Bn} {f : Dn} {ts : List Nat}
def lcPost (K : PySem.W.Frag) (mg : Str → Option Value) (Wx : WX) (ws : Wa) (B0 : Addr → Prop) (sl : Ls) (σ : L2.St) (H : Hp) (r : Rs D) (Q : VK) : Prop := match r with
  | .ok d wF => ∀ ws' H' D0 vl ds, d = .lst ds → ds.length ≤ sizeLine → H D0 = none → H' D0 = some (HO.lst vl) → ¬ Bad ws' B0 sl σ D0 → Le ws (Own sl σ) H ws' (Own sl σ) H' → Env K ws' (fun a => B0 a ∨ a = D0) sl wF σ H' → DRs K ws' (Bad ws' (fun a => B0 a ∨ a = D0) sl σ) H' vl ds → Q (.ref D0) H'
  | .ex x w' => ∀ ws' H' C, mg x = some (.ref C) → Le ws (Own sl σ) H ws' (Own sl σ) H' → Env K ws' B0 sl w' σ H' → Wx (.ref C) none σ H'
  | .bad => False
theorem lc_go {K : PySem.W.Frag} {mg : Str → Option Value} {vs : List Nat} (hts : ∀ j ∈ ts, j ∈ vs) (σ : L2.St) (H : Hp) (Q : VK) {ws : Wa} {B0 : Addr → Prop} {sl : Ls} {w : W} (e : Env K ws B0 sl w σ H)
    (h : lcPost K mg Wx ws B0 sl σ H (nNo vs sl (fLC (it sl) fun x => p D x (fun sl1 => f sl1) (setNo vs sl)) w) Q) : tLc (tIm K mg Wx it) (tGm K ts p) tYes (tE K mg W0 f) vs σ H Q := by
  unfold nNo at h
  cases hno : noOw vs sl with
  | false => rw [hno] at h; exact h.elim
  | true =>
    rw [hno] at h
    refine ⟨ws, B0, sl, w, e, ?_⟩
    unfold fLC M.bind at h
    simp only at h
    cases qi : it sl w with
    | bad => rw [qi] at h; exact h.elim
    | ex x s' => rw [qi] at h; exact h
    | ok items w1 =>
      rw [qi] at h
      simp only at h
      intro ws1 H1 l1 e1 J hz hJ D0 hD
      cases q : fMapM (fun x => p D x (fun sl1 => f sl1) (setNo vs sl)) items w1 with
      | bad => rw [q] at h; exact h.elim
      | ex y s2 => exact absurd q map_noex
      | ok ds wF =>
        rw [q] at h
        obtain ⟨hr, hl⟩ := rem_map (T := T1 vs p f sl) (fun x w d w1 z => ⟨d, rfl, z⟩) q
        refine comp_go (STEP := STEP1 K mg vs ts p tYes f σ) e1 hr (by omega) hJ D0 hD (fun ws w as H v x a w2 rest Nx cc hd hT hl hnx => step1 hts hno (.inr rfl) (.inl hD) cc hd hT hl hnx) fun ws' H' vl hvl nD l e' r => ?_
        refine h ws' H' D0 vl ds rfl (by omega) (l1.ex D0 hD) hvl (fun z => ?_) (l1.trans l) e' r
        rcases z with z | z | ⟨j, dj, z1, z2⟩
        · exact nD z
        · exact e1.dom D0 z hD
        · obtain ⟨a, y1, y2, y3, y4⟩ := e'.ow j dj z1
          rw [z2] at y1
          cases y1
          exact y4 (.inr rfl)
theorem lcf_go {K : PySem.W.Frag} {mg : Str → Option Value} {vs : List Nat} (hts : ∀ j ∈ ts, j ∈ vs) (σ : L2.St) (H : Hp) (Q : VK) {ws : Wa} {B0 : Addr → Prop} {sl : Ls} {w : W} (e : Env K ws B0 sl w σ H)
    (h : lcPost K mg Wx ws B0 sl σ H (nNo vs sl (fLCf (it sl) fun x => p (Option D) x (fun sl1 => fIf (c sl1) ((f sl1).bind fun d => M.pure (some d)) (M.pure none)) (setNo vs sl)) w) Q) : tLc (tIm K mg Wx it) (tGm K ts p) (tT K mg W0 c) (tE K mg W0 f) vs σ H Q := by
  unfold nNo at h
  cases hno : noOw vs sl with
  | false => rw [hno] at h; exact h.elim
  | true =>
    rw [hno] at h
    refine ⟨ws, B0, sl, w, e, ?_⟩
    unfold fLCf M.bind at h
    simp only at h
    cases qi : it sl w with
    | bad => rw [qi] at h; exact h.elim
    | ex x s' => rw [qi] at h; exact h
    | ok items w1 =>
      rw [qi] at h
      simp only at h
      intro ws1 H1 l1 e1 J hz hJ D0 hD
      cases q : fFltM (fun x => p (Option D) x (fun sl1 => fIf (c sl1) ((f sl1).bind fun d => M.pure (some d)) (M.pure none)) (setNo vs sl)) items w1 with
      | bad => unfold M.bind at q; rw [q] at h; exact h.elim
      | ex y s2 => exact absurd q flt_noex
      | ok ds wF =>
        obtain ⟨hr, hl⟩ := rem_flt (T := T2 vs p c f sl) (fun x w d w1 z => ⟨d, rfl, z⟩) q
        unfold M.bind at q
        rw [q] at h
        refine comp_go (STEP := STEP1 K mg vs ts p (tT K mg W0 c) f σ) e1 hr (by omega) hJ D0 hD (fun ws w as H v x a w2 rest Nx cc hd hT hl hnx => step2 hts hno (.inr rfl) (.inl hD) cc hd hT hl hnx) fun ws' H' vl hvl nD l e' r => ?_
        refine h ws' H' D0 vl ds rfl (by omega) (l1.ex D0 hD) hvl (fun z => ?_) (l1.trans l) e' r
        rcases z with z | z | ⟨j, dj, z1, z2⟩
        · exact nD z
        · exact e1.dom D0 z hD
        · obtain ⟨a, y1, y2, y3, y4⟩ := e'.ow j dj z1
          rw [z2] at y1
          cases y1
          exact y4 (.inr rfl)
theorem post_E {K : PySem.W.Frag} {mg : Str → Option Value} {ws : Wa} {B0 : Addr → Prop} {sl : Ls} {σ : L2.St} {H : Hp} {r : Rs D} {Q : VK} (h : runAt K mg Wx ws B0 sl σ H r fun ws' _ d H' => ∀ v, DR K ws' (Bad ws' B0 sl σ) H' v d → Q v H') : lcPost K mg Wx ws B0 sl σ H r Q := by
  cases r with
  | bad => exact h
  | ex c w => exact h
  | ok d wF =>
    intro ws' H' D0 vl ds hd hz hn hvl nb l e' rr
    subst hd
    exact h ws' H' l (e'.fewer fun a z => .inl z) _ (.lst hz nb hvl rr.small)
theorem pts_yes {X : Cx} : PTs X [] tYes := pts_nil
theorem m_lc (hc : X.calm = true) (hN : X.N.Nodup) (hi : PIm X Wx tg iter it) (ok : BlkOk X.N X.env.scope scope own) (hts : ∀ j ∈ ts, j ∈ own.map (·.2))
    (hg : ∀ (s : Shared) (H : Hp) (C : Addr) (cl : List (Str × Addr)) (fp : List Addr), PGm (X.blk s H scope (compEnvC scope cl C X.env) fp) tg ts p)
    (he : ∀ (s : Shared) (H : Hp) (C : Addr) (cl : List (Str × Addr)) (fp : List Addr), PEm (X.blk s H scope (compEnvC scope cl C X.env) fp) W0 elt f) (hs : ∀ x, foldedSetIterable iter X.env x = pure x := by intro _; rfl) :
    PEm X Wx (.ListComp elt [⟨tg, iter, [], 0⟩] scope pos) (fun sl => nNo (own.map (·.2)) sl (fLC (it sl) fun x => p D x (fun sl1 => f sl1) (setNo (own.map (·.2)) sl))) :=
  (pe_lc hc hN hi ok hg (fun _ _ _ _ _ => pts_yes) he hs).mimp fun σ H Q ⟨ws, B0, sl, w, e, h⟩ => lc_go hts σ H Q e (post_E h)
theorem m_lcf {cc : Expr} (hc : X.calm = true) (hN : X.N.Nodup) (hi : PIm X Wx tg iter it) (ok : BlkOk X.N X.env.scope scope own) (hts : ∀ j ∈ ts, j ∈ own.map (·.2))
    (hg : ∀ (s : Shared) (H : Hp) (C : Addr) (cl : List (Str × Addr)) (fp : List Addr), PGm (X.blk s H scope (compEnvC scope cl C X.env) fp) tg ts p) (ht : ∀ (s : Shared) (H : Hp) (C : Addr) (cl : List (Str × Addr)) (fp : List Addr), PTm (X.blk s H scope (compEnvC scope cl C X.env) fp) W0 cc c)
    (he : ∀ (s : Shared) (H : Hp) (C : Addr) (cl : List (Str × Addr)) (fp : List Addr), PEm (X.blk s H scope (compEnvC scope cl C X.env) fp) W0 elt f) (hs : ∀ x, foldedSetIterable iter X.env x = pure x := by intro _; rfl) :
    PEm X Wx (.ListComp elt [⟨tg, iter, [cc], 0⟩] scope pos) (fun sl => nNo (own.map (·.2)) sl (fLCf (it sl) fun x => p (Option D) x (fun sl1 => fIf (c sl1) ((f sl1).bind fun d => M.pure (some d)) (M.pure none)) (setNo (own.map (·.2)) sl))) :=
  (pe_lc hc hN hi ok hg (fun s H C cl fp => pts_one (ht s H C cl fp)) he hs).mimp fun σ H Q ⟨ws, B0, sl, w, e, h⟩ => lcf_go hts σ H Q e (post_E h)
theorem ms_setLc {i : Nat} {y : Str} {py spos : Pos} (hc : X.calm = true) (hN : X.N.Nodup) (hy : X.N[i]? = some y) (hyl : X.env.scope.names.lookup y = some .local)
    (hsw : swapsWith (.ListComp elt [⟨tg, iter, [], 0⟩] scope pos) (some (.Name y py)) spos.line X.env = pure true) (hi : PIm X Wx tg iter it) (ok : BlkOk X.N X.env.scope scope own) (hts : ∀ j ∈ ts, j ∈ own.map (·.2))
    (hg : ∀ (s : Shared) (H : Hp) (C : Addr) (cl : List (Str × Addr)) (fp : List Addr), PGm (X.blk s H scope (compEnvC scope cl C X.env) fp) tg ts p)
    (he : ∀ (s : Shared) (H : Hp) (C : Addr) (cl : List (Str × Addr)) (fp : List Addr), PEm (X.blk s H scope (compEnvC scope cl C X.env) fp) W0 elt f) (hs : ∀ x, foldedSetIterable iter X.env x = pure x := by intro _; rfl) :
    PSm X Wx (.Assign [.Name y py] (.ListComp elt [⟨tg, iter, [], 0⟩] scope pos) spos) (fun nx _ _ sl => (nNo (own.map (·.2)) sl (fLC (it sl) fun x => p D x (fun sl1 => f sl1) (setNo (own.map (·.2)) sl))).bind fun d => nx (sl.set i (.va d))) := by
  refine (ps_setLc (g := tGm X.K ts p) (tt := tYes) (te := tE X.K X.mg W0 f) hc hN hy hyl hsw hi ok hg (fun _ _ _ _ _ => pts_yes) he hs).mimp fun D0 σ H h => ?_
  obtain ⟨ws, B0, sl, w, e, h⟩ := set_go D0 σ H h
  exact lc_go hts σ H _ e (post_E h)
end

def fLC2 (items : M (List D)) (f : D → M (List D)) : M D := items.bind fun l => (fCatM f l).bind fun r => if r.length ≤ sizeLine then M.pure (.lst r) else M.bad
def fIn (items : M (List D)) (f : D → M D) : M (List D) := items.bind fun l => fMapM f l
def T3 (vs : List Nat) (p : Gk) (g : An) (sl : Ls) (x : D) (w : W) (a : List D) (w1 : W) : Prop := p (List D) x (fun sl1 => g sl1) (setNo vs sl) w = .ok a w1
section
variable {K : PySem.W.Frag} {mg : Str → Option Value} {Wx : WX} {ws1 : Wa} {B0 : Addr → Prop} {sl : Ls} {w1 wF : W} {σ : L2.St} {H1 : Hp} {vs ts vs1 ts1 : List Nat} {p p1 : Gk} {c : Bn} {f : Dn} {it1 : An}
def STEP2 (K : PySem.W.Frag) (mg : Str → Option Value) (vs ts vs1 ts1 : List Nat) (p p1 : Gk) (tt1 : TT) (it1 : An) (f : Dn) (σ : L2.St) (D0 : Addr) (v : V) (H : Hp) (Nx : Hp → Prop) : Prop := tGm K ts p v (L2.wipe σ vs) H fun σ2 H2 => L2.wipe σ2 vs = L2.wipe σ vs ∧ tYes σ2 H2 fun b H3 =>
    if b = true then tIm K mg W0 it1 σ2 H3 fun J1 H4 => ∃ W1 : Nat → Nat → Hp → Prop, (∃ m, W1 0 m H4) ∧ ∀ j k H, W1 j k H →
      (J1.stop j H ∧ Nx H) ∨ (J1.go j H ∧ ∃ Nx1 : Hp → Prop, (∀ H', Nx1 H' → ∃ k', k' < k ∧ W1 (j + 1) k' H') ∧ ∀ x H', J1.yld j H x H' → STEP1 K mg vs1 ts1 p1 tt1 f σ2 D0 x H' Nx1)
    else Nx H3
theorem step3 {T : Ls → D → W → List D → W → Prop} {tt1 : TT} {g : An} {D0 : Addr} (hts : ∀ j ∈ ts, j ∈ vs) (hno : noOw vs sl = true) (hD : H1 D0 = none)
    (hg : ∀ sl2 w a w2, g sl2 w = .ok a w2 → noOw vs1 sl2 = true ∧ ∃ items w4, it1 sl2 w = .ok items w4 ∧ Rem (T sl2) items w4 a w2)
    (hstep : ∀ {B' : Addr → Prop} {ws0 : Wa} {O0 : Addr → Prop} {H0 : Hp} {sl2 : Ls} {σ2 : L2.St} {ws w as H v x a w2} {rest : List D} {Nx : Hp → Prop}, B' D0 → (H0 D0 = none ∨ O0 D0) → noOw vs1 sl2 = true → CAt K B' D0 sl2 σ2 ws0 O0 H0 ws w as H → DR K ws (Bad ws B' sl2 σ2) H v x → T sl2 x w a w2 → (as ++ (a ++ rest)).length ≤ sizeLine →
      (∀ ws' H', CAt K B' D0 sl2 σ2 ws0 O0 H0 ws' w2 (as ++ a) H' → Nx H') → STEP1 K mg vs1 ts1 p1 tt1 f σ2 D0 v H Nx)
    {ws w as H v x a w2} {rest : List D} {Nx : Hp → Prop} (cc : CAt K (fun a => B0 a ∨ a = D0) D0 sl σ ws1 (Own sl σ) H1 ws w as H) (hd : DR K ws (Bad ws (fun a => B0 a ∨ a = D0) sl σ) H v x) (hT : T3 vs p g sl x w a w2) (hl : (as ++ (a ++ rest)).length ≤ sizeLine)
    (e1 : Env K ws1 B0 sl w1 σ H1)
    (hnx : ∀ ws' H', CAt K (fun a => B0 a ∨ a = D0) D0 sl σ ws1 (Own sl σ) H1 ws' w2 (as ++ a) H' → Nx H') : STEP2 K mg vs ts vs1 ts1 p p1 tt1 it1 f σ D0 v H Nx := by
  have hB : ∀ a, (B0 a ∨ a = D0) → B0 a ∨ H1 a = none := fun a z => z.imp id fun q => by rw [q]; exact hD
  unfold T3 at hT
  refine bind_go hts (.inr rfl) cc hd (by rw [hT]; exact fun z => by cases z) fun ws2 sl2 w3 σ2 H2 c2 l2 hw hs z => ⟨hw, ?_⟩
  rw [hT] at z
  obtain ⟨hno2, items, w4, hi, hrem⟩ := hg _ _ _ _ z
  show tIm K mg W0 it1 σ2 H2 _
  refine ⟨ws2, _, sl2, w3, c2.env, runAt_ok hi fun ws4 H4 l4 e4 J1 hz1 hJ1 => ?_⟩
  have c4 := c2.after (.inr rfl) l4 e4
  refine loop_go (K := K) (B' := fun a => B0 a ∨ a = D0) (D0 := D0) (sl := sl2) (σ := σ2) (ws0 := ws4) (O0 := fun a => Own sl2 σ2 a ∨ a = D0) (H0 := H4) (pre := as) (Fin := Nx) hrem (fun ws w as H c => ?_) ⟨⟨ws4.le_refl, fun _ h => .inl h, fun _ h => .inl (.inl h), fun _ _ h _ _ => h, fun _ h => h⟩, c4.env, c4.nD, c4.acc⟩ (fun ws H c => ?_) (fun ws w as' H v x a' w2 rest' Nx' cc hd hT hl' hnx' => hstep (.inr rfl) (.inr (.inr rfl)) hno2 cc hd hT (rest := rest') (by rw [hl']; simp at hl ⊢; omega) hnx')
  · refine hJ1 ws _ H c.le.wle (fun a o h1 h2 => c.le.keep a o h1 (fun z => h2 (.inl z)) (fun z => ?_)) (fun a z => ?_) c.env.bad
    · rcases z with z | z
      · exact h2 (.inr (.inr z))
      · exact h2 (.inr (.inl (.inr z)))
    · rcases z with z | z | z
      · exact (c.le.new a z).imp .inl id
      · exact .inl (.inr (.inl z))
      · rcases c.le.own a z with (q | q) | q
        · exact .inl (.inr (.inr q))
        · exact .inl (.inr (.inl (.inr q)))
        · exact .inr q
  · have lx : Le ws1 (Own sl σ) H1 ws4 (fun a => Own sl2 σ2 a ∨ a = D0) H4 := ⟨c4.le.wle, c4.le.new, fun a z => by
      rcases z with z | z
      · exact c4.le.own a z
      · rw [z]; exact .inr hD, c4.le.keep, c4.le.ex⟩
    have lF := lx.trans c.le
    obtain ⟨l', e', l2'⟩ := e1.back hB hno lF c.env hw hs
    obtain ⟨vl, h1, h2⟩ := c.acc
    exact hnx ws H ⟨l', e', c.nD, vl, h1, h2.le l2'⟩
end
def nNoL (vs : List Nat) (sl : Ls) (m : M (List D)) : M (List D) := match noOw vs sl with
  | true => m
  | false => M.bad
theorem nNoL_ok {vs : List Nat} {sl : Ls} {m : M (List D)} {w w' : W} {a : List D} (h : nNoL vs sl m w = .ok a w') : noOw vs sl = true ∧ m w = .ok a w' := by
  unfold nNoL at h
  cases q : noOw vs sl with
  | true => rw [q] at h; exact ⟨rfl, h⟩
  | false => rw [q] at h; cases h
section
variable {X : Cx} {Wx : WX} {elt tg iter tg1 iter1 : Expr} {ifs : List Expr} {scope : Scope} {own : List (Str × Nat)} {pos : Pos} {it it1 : An} {p p1 : Gk} {c : Bn} {f : Dn} {ts ts1 : List Nat}
theorem lc2_go {K : PySem.W.Frag} {mg : Str → Option Value} {vs vs1 : List Nat} (hts : ∀ j ∈ ts, j ∈ vs) (hts1 : ∀ j ∈ ts1, j ∈ vs1) (σ : L2.St) (H : Hp) (Q : VK) {ws : Wa} {B0 : Addr → Prop} {sl : Ls} {w : W} (e : Env K ws B0 sl w σ H)
    (h : lcPost K mg Wx ws B0 sl σ H (nNo vs sl (fLC2 (it sl) fun x => p (List D) x (fun sl1 => nNoL vs1 sl1 (fIn (it1 sl1) fun y => p1 D y (fun sl2 => f sl2) (setNo vs1 sl1))) (setNo vs sl)) w) Q) : tLc2 (tIm K mg Wx it) (tGm K ts p) tYes (tIm K mg W0 it1) (tGm K ts1 p1) tYes (tE K mg W0 f) vs vs1 σ H Q := by
  unfold nNo at h
  cases hno : noOw vs sl with
  | false => rw [hno] at h; exact h.elim
  | true =>
    rw [hno] at h
    refine ⟨ws, B0, sl, w, e, ?_⟩
    unfold fLC2 M.bind at h
    simp only at h
    cases qi : it sl w with
    | bad => rw [qi] at h; exact h.elim
    | ex x s' => rw [qi] at h; exact h
    | ok items w1 =>
      rw [qi] at h
      simp only at h
      intro ws1 H1 l1 e1 J hz hJ D0 hD
      cases q : fCatM (fun x => p (List D) x (fun sl1 => nNoL vs1 sl1 (fIn (it1 sl1) fun y => p1 D y (fun sl2 => f sl2) (setNo vs1 sl1))) (setNo vs sl)) items w1 with
      | bad => rw [q] at h; exact h.elim
      | ex y s2 => exact absurd q cat_noex
      | ok ds wF =>
        rw [q] at h
        simp only at h
        split at h
        · rename_i hl
          have hr := rem_cat (T := T3 vs p (fun sl1 => nNoL vs1 sl1 (fIn (it1 sl1) fun y => p1 D y (fun sl2 => f sl2) (setNo vs1 sl1))) sl) (fun x w d w1 z => z) q
          refine comp_go (STEP := STEP2 K mg vs ts vs1 ts1 p p1 tYes it1 f σ) e1 hr hl hJ D0 hD (fun ws w as H v x a w2 rest Nx cc hd hT hl hnx => step3 (T := fun sl2 => T1 vs1 p1 f sl2) hts hno hD (fun sl2 w a w2 z => ?_) (fun hBD hn0 hno2 cc hd hT hl hnx => step1 hts1 hno2 hBD hn0 cc hd hT hl hnx) cc hd hT hl e1 hnx) fun ws' H' vl hvl nD l e' r => ?_
          · obtain ⟨z1, z2⟩ := nNoL_ok z
            obtain ⟨l, w4, z3, z4⟩ := bind_okE z2
            exact ⟨z1, l, w4, z3, (rem_map (T := T1 vs1 p1 f sl2) (fun x w d w1 z => ⟨d, rfl, z⟩) z4).1⟩
          · refine h ws' H' D0 vl ds rfl hl (l1.ex D0 hD) hvl (fun z => ?_) (l1.trans l) e' r
            rcases z with z | z | ⟨j, dj, z1, z2⟩
            · exact nD z
            · exact e1.dom D0 z hD
            · obtain ⟨a, y1, y2, y3, y4⟩ := e'.ow j dj z1
              rw [z2] at y1
              cases y1
              exact y4 (.inr rfl)
        · exact h.elim
theorem m_lc2 (vs1 : List Nat) (hc : X.calm = true) (hN : X.N.Nodup) (hi : PIm X Wx tg iter it) (ok : BlkOk X.N X.env.scope scope own) (hv : ∀ i ∈ vs1, i ∈ own.map (·.2)) (hts : ∀ j ∈ ts, j ∈ own.map (·.2)) (hts1 : ∀ j ∈ ts1, j ∈ vs1)
    (hg : ∀ (s : Shared) (H : Hp) (C : Addr) (cl : List (Str × Addr)) (fp : List Addr), PGm (X.blk s H scope (compEnvC scope cl C X.env) fp) tg ts p)
    (hi1 : ∀ (s : Shared) (H : Hp) (C : Addr) (cl : List (Str × Addr)) (fp : List Addr), PIm (X.blk s H scope (compEnvC scope cl C X.env) fp) W0 tg1 iter1 it1)
    (hg1 : ∀ (s : Shared) (H : Hp) (C : Addr) (cl : List (Str × Addr)) (fp : List Addr), PGm (X.blk s H scope (compEnvC scope cl C X.env) fp) tg1 ts1 p1)
    (he : ∀ (s : Shared) (H : Hp) (C : Addr) (cl : List (Str × Addr)) (fp : List Addr), PEm (X.blk s H scope (compEnvC scope cl C X.env) fp) W0 elt f) (hs : ∀ x, foldedSetIterable iter X.env x = pure x := by intro _; rfl) (hs1 : ∀ env x, foldedSetIterable iter1 env x = pure x := by intro _ _; rfl) :
    PEm X Wx (.ListComp elt [⟨tg, iter, [], 0⟩, ⟨tg1, iter1, [], 0⟩] scope pos) (fun sl => nNo (own.map (·.2)) sl (fLC2 (it sl) fun x => p (List D) x (fun sl1 => nNoL vs1 sl1 (fIn (it1 sl1) fun y => p1 D y (fun sl2 => f sl2) (setNo vs1 sl1))) (setNo (own.map (·.2)) sl))) :=
  (pe_lc2 hc hN hi ok hv hg (fun _ _ _ _ _ => pts_yes) hi1 hg1 (fun _ _ _ _ _ => pts_yes) he hs hs1).mimp fun σ H Q ⟨ws, B0, sl, w, e, h⟩ => lc2_go hts hts1 σ H Q e (post_E h)
end
end Pm
namespace Pm
open PySem PySem.Spec PyProof.Rows L2


abbrev Hk := Ls → (List Sl → M D) → M D
inductive SRs (K : PySem.W.Frag) (ws : Wa) (B : Addr → Prop) (H : Hp) : List V → List Sl → List Addr → Prop
  | nil : SRs K ws B H [] [] []
  | va {v : V} {d : D} {vs : List V} {xs : List Sl} {F : List Addr} : DR K ws B H v d → SRs K ws B H vs xs F → SRs K ws B H (v :: vs) (.va d :: xs) F
  | ow {p : Addr} {o : HO} {d : D} {vs : List V} {xs : List Sl} {F : List Addr} : H p = some o → ON K ws B H o d → SRs K ws B H vs xs F → SRs K ws B H (.ref p :: vs) (.ow d :: xs) (p :: F)
def tH (K : PySem.W.Frag) (mg : Str → Option Value) (Wx : WX) (h : Hk) : TA := fun σ H Q => ∃ ws B0 sl w k r0 nx bk ct D0, Env K ws B0 sl w σ H ∧ h sl k w = r0 ∧ Ans K mg Wx ws B0 sl σ H r0 nx bk ct D0 ∧
  ∀ ws' w' H' vs F xs, Le ws (Own sl σ) H ws' (Own sl σ) H' → Env K ws' (fun a => B0 a ∨ a ∈ F) sl w' σ H' → F.Nodup → (∀ a ∈ F, H a = none ∧ ¬ Bad ws' B0 sl σ a) → SRs K ws' (Bad ws' (fun a => B0 a ∨ a ∈ F) sl σ) H' vs xs F → k xs w' = r0 → Q vs H'
abbrev PHm (X : Cx) (Wx : WX) (es : List Expr) (h : Hk) : Prop := PA X es (tH X.K X.mg Wx h)
section
variable {K : PySem.W.Frag} {mg : Str → Option Value} {Wx : WX} {ws ws1 : Wa} {B0 : Addr → Prop} {sl : Ls} {σ : L2.St} {H H1 : Hp} {Q : List V → Hp → Prop}
theorem SRs.mono {B B' : Addr → Prop} {vs : List V} {xs : List Sl} {F : List Addr} (hb : ∀ a, B' a → B a) (h : SRs K ws B H vs xs F) : SRs K ws B' H vs xs F := by
  have kd : ∀ {v d}, DR K ws B H v d → DR K ws B' H v d := fun r => r.keep ws.le_refl (fun _ _ z _ => z) fun a z => .inl (hb a z)
  have kds : ∀ {v d}, DRs K ws B H v d → DRs K ws B' H v d := fun r => r.keep ws.le_refl (fun _ _ z _ => z) fun a z => .inl (hb a z)
  induction h with
  | nil => exact .nil
  | va r _ ih => exact .va (kd r) ih
  | @ow p o d _ _ _ hp r _ ih =>
    refine .ow hp ?_ ih
    cases d <;> first
      | exact r.elim
      | (obtain ⟨vs, r1, r2, r3⟩ := r; exact ⟨vs, r1, r2, kds r3⟩)
end
section
variable {X : Cx} {Wx : WX} {e : Expr} {es : List Expr}
theorem mh_nil : PHm X Wx [] (fun _ k => k []) := pa_nil.mimp fun σ H Q ⟨ws, B0, sl, w, k, r0, nx, bk, ct, D0, e, q, h, f⟩ => f ws w H [] [] [] (Le.refl _ _ _) (e.fewer (B0 := fun a => B0 a ∨ a ∈ ([] : List Addr)) fun a z => z.elim id fun q => nomatch q) List.nodup_nil (fun a z => nomatch z) .nil q
theorem mh_va {f : Dn} {r : Hk} (ha : PEm X Wx e f) (hr : PHm X Wx es r) (hs : starEach (e :: es) X.env = (false, eval e X.env) :: starEach es X.env := by rfl) : PHm X Wx (e :: es) (fun sl k => (f sl).bind fun d => r sl fun xs => k (.va d :: xs)) := by
  refine (pa_cons ha hr hs).mimp fun σ H Q ⟨ws, B0, sl, w, k, r0, nx, bk, ct, D0, e, q, h, g⟩ => ?_
  refine ⟨ws, B0, sl, w, e, ?_⟩
  have q : M.bind (f sl) (fun d => r sl fun xs => k (.va d :: xs)) w = r0 := q
  unfold M.bind at q
  cases qf : f sl w with
  | bad => rw [qf] at q; exact absurd q.symm h.nb
  | ex c w1 => rw [qf] at q; exact fun ws' H' C hC l e => h.ex c w1 q.symm σ ws' sl H' C hC l e
  | ok d w1 =>
    rw [qf] at q
    intro ws1 H1 l1 e1 v hv
    refine ⟨ws1, B0, sl, w1, (fun xs => k (.va d :: xs)), r0, nx, bk, ct, D0, e1, q, h.le l1, fun ws' w' H' vs F xs l e' nd hF sr qk => ?_⟩
    have hb : ∀ a, Bad ws' (fun a => B0 a ∨ a ∈ F) sl σ a → Bad ws1 B0 sl σ a ∨ H1 a = none := bad_more (fun a z => z.imp id fun q => (hF a q).1) l
    exact g ws' w' H' (v :: vs) F (.va d :: xs) (l1.trans l) e' nd (fun a ha => ⟨l1.ex a (hF a ha).1, (hF a ha).2⟩) (.va (hv.keep l.wle l.kp hb) sr) qk
end
def puts : List Nat → List Sl → Ls → Ls
  | i :: is, x :: xs, sl => puts is xs (sl.set i x)
  | _, _, sl => sl
def setV : List Nat → List V → L2.St → L2.St
  | i :: is, v :: vs, σ => setV is vs (σ.set i (some v))
  | _, _, σ => σ
theorem puts_ok {K : PySem.W.Frag} {ws0 : Wa} {sl0 : Ls} {σ0 : L2.St} {H0 : Hp} {ws : Wa} {B0 : Addr → Prop} {H : Hp} : ∀ (is : List Nat) (vs : List V) (xs : List Sl) (F : List Addr) (sl : Ls) (w : W) (σ : L2.St), is.length = xs.length → Le ws0 (Own sl0 σ0) H0 ws (Own sl σ) H → Env K ws (fun a => B0 a ∨ a ∈ F) sl w σ H → F.Nodup →
    (∀ a ∈ F, H0 a = none ∧ ¬ Bad ws B0 sl σ a) → SRs K ws (Bad ws (fun a => B0 a ∨ a ∈ F) sl σ) H vs xs F → Le ws0 (Own sl0 σ0) H0 ws (Own (puts is xs sl) (setV is vs σ)) H ∧ Env K ws B0 (puts is xs sl) w (setV is vs σ) H
  | [], vs, xs, F, sl, w, σ, hl, l, e, nd, hF, sr => by
    cases sr with
    | nil => exact ⟨l, e.fewer fun a z => .inl z⟩
    | va _ _ => cases hl
    | ow _ _ _ => cases hl
  | i :: is, vs0, xs0, F, sl, w, σ, hl, l, e, nd, hF, sr0 => by
   cases sr0 with
   | nil => cases hl
   | @va v d vs xs _ r sr =>
    obtain ⟨l1, e1⟩ := e.put (i := i) r
    have hb : ∀ a, Bad ws (fun a => B0 a ∨ a ∈ F) (sl.set i (.va d)) (σ.set i (some v)) a → Bad ws (fun a => B0 a ∨ a ∈ F) sl σ a := fun a z => z.imp id fun z => z.imp id fun z => by
      obtain ⟨j, dj, h1, h2⟩ := z
      rcases get_set h1 with ⟨_, z, _⟩ | ⟨n, h1⟩
      · cases z
      · rw [List.getElem?_set_ne (Ne.symm n)] at h2
        exact ⟨j, dj, h1, h2⟩
    refine puts_ok is _ _ _ _ _ _ (by simpa using hl) (l.trans l1) e1 nd (fun a ha => ⟨(hF a ha).1, fun z => (hF a ha).2 ?_⟩) (sr.mono hb)
    rcases z with z | z | ⟨j, dj, h1, h2⟩
    · exact .inl z
    · exact .inr (.inl z)
    · rcases get_set h1 with ⟨_, z, _⟩ | ⟨n, h1⟩
      · cases z
      · rw [List.getElem?_set_ne (Ne.symm n)] at h2
        exact .inr (.inr ⟨j, dj, h1, h2⟩)
   | @ow p o d vs xs F hp ho sr =>
    obtain ⟨npF, nd'⟩ := List.nodup_cons.mp nd
    obtain ⟨h0, nb⟩ := hF p List.mem_cons_self
    have e' : Env K ws (fun a => (B0 a ∨ a ∈ F) ∨ a = p) sl w σ H := e.fewer fun a z => by
      rcases z with (z | z) | z
      · exact .inl z
      · exact .inr (List.mem_cons_of_mem _ z)
      · rw [z]; exact .inr List.mem_cons_self
    have nb' : ¬ Bad ws (fun a => B0 a ∨ a ∈ F) sl σ p := fun z => by
      rcases z with z | z | z
      · exact nb (.inl z)
      · rcases z with z | z
        · exact nb (.inr (.inl z))
        · exact npF z
      · exact nb (.inr (.inr z))
    have bb : ∀ a, Bad ws (fun a => (B0 a ∨ a ∈ F) ∨ a = p) sl σ a → Bad ws (fun a => B0 a ∨ a ∈ p :: F) sl σ a := fun a z => z.imp id fun z => z.imp (fun z => by
      rcases z with (z | z) | z
      · exact .inl z
      · exact .inr (List.mem_cons_of_mem _ z)
      · rw [z]; exact .inr List.mem_cons_self) id
    have ho' : ON K ws (Bad ws (fun a => (B0 a ∨ a ∈ F) ∨ a = p) sl σ) H o d := by
      cases d <;> first
        | exact ho.elim
        | (obtain ⟨vs, r1, r2, r3⟩ := ho; exact ⟨vs, r1, r2, r3.keep ws.le_refl (fun _ _ z _ => z) fun a z => .inl (bb a z)⟩)
    obtain ⟨l1, e1⟩ := e'.adopt (i := i) h0 hp nb' l ho'
    have hO : ∀ a, Own (sl.set i (.ow d)) (σ.set i (some (.ref p))) a → Own sl σ a ∨ a = p := fun a ⟨j, dj, h1, h2⟩ => by
      rcases get_set h1 with ⟨rfl, z, hl⟩ | ⟨n, h1⟩
      · rw [List.getElem?_set_self (by rw [← e.len]; exact hl)] at h2
        cases h2; exact .inr rfl
      · rw [List.getElem?_set_ne (Ne.symm n)] at h2
        exact .inl ⟨j, dj, h1, h2⟩
    refine puts_ok is _ _ _ _ _ _ (by simpa using hl) l1 e1 nd' (fun a ha => ⟨(hF a (List.mem_cons_of_mem _ ha)).1, fun z => ?_⟩) (sr.mono fun a z => ?_)
    · rcases z with z | z | z
      · exact (hF a (List.mem_cons_of_mem _ ha)).2 (.inl z)
      · exact (hF a (List.mem_cons_of_mem _ ha)).2 (.inr (.inl z))
      · rcases hO a z with z | z
        · exact (hF a (List.mem_cons_of_mem _ ha)).2 (.inr (.inr z))
        · rw [z] at ha; exact npF ha
    · rcases z with z | z | z
      · exact .inl z
      · rcases z with z | z
        · exact .inr (.inl (.inl z))
        · exact .inr (.inl (.inr (List.mem_cons_of_mem _ z)))
      · rcases hO a z with z | z
        · exact .inr (.inr z)
        · rw [z]; exact .inr (.inl (.inr List.mem_cons_self))
theorem SRs.length {K : PySem.W.Frag} {ws : Wa} {B : Addr → Prop} {H : Hp} {vs : List V} {xs : List Sl} {F : List Addr} (h : SRs K ws B H vs xs F) : vs.length = xs.length := by
  induction h with
  | nil => rfl
  | va _ _ ih => simp [ih]
  | ow _ _ _ ih => simp [ih]
def CntH (n : Nat) (h : Hk) : Prop := ∀ sl k k', (∀ xs, xs.length = n → k xs = k' xs) → h sl k = h sl k'
theorem cnh_nil : CntH 0 (fun _ k => k []) := fun sl k k' h => h [] rfl
theorem cnh_va {n : Nat} {f : Dn} {r : Hk} (h : CntH n r) : CntH (n + 1) (fun sl k => (f sl).bind fun d => r sl fun xs => k (.va d :: xs)) := fun sl k k' q => by
  show M.bind _ _ = M.bind _ _
  congr 1
  funext d
  exact h sl _ _ fun xs hx => q _ (by simp [hx])
theorem par_go {K : PySem.W.Frag} {mg : Str → Option Value} {Wx : WX} {is : List Nat} {h : Hk} (hn : CntH is.length h) (D0 : Ends) (σ : L2.St) (H : Hp) (q : tS K mg Wx (fun nx _ _ sl => h sl fun xs => nx (puts is xs sl)) D0 σ H) : tH K mg Wx h σ H (fun vs H' => vs.length = is.length ∧ D0.nx (setV is vs σ) H') := by
  obtain ⟨ws, B0, sl, w, nx, bk, ct, e, q⟩ := q
  have q : Ans K mg Wx ws B0 sl σ H (h sl (fun xs => nx (puts is xs sl)) w) nx bk ct D0 := q
  rw [hn sl (fun xs => nx (puts is xs sl)) (fun xs => if xs.length = is.length then nx (puts is xs sl) else M.bad) fun xs hx => by simp [hx]] at q
  refine ⟨ws, B0, sl, w, _, _, nx, bk, ct, D0, e, rfl, q, fun ws' w' H' vs F xs l e' nd hF sr qk => ?_⟩
  by_cases hx : xs.length = is.length
  · rw [if_pos hx] at qk
    obtain ⟨l2, e2⟩ := puts_ok _ _ _ _ _ _ _ hx.symm l e' nd hF sr
    exact ⟨by rw [sr.length]; exact hx, q.nx _ _ _ _ _ l2 e2 qk⟩
  · rw [if_neg hx] at qk
    exact absurd qk.symm q.nb
section
variable {X : Cx} {Wx : WX} {a b c : Expr} {i j l : Nat} {x y z : Str} {px py pz pt pt2 pos : Pos} {kt k2 : Nat} {h : Hk}
theorem tH_imp {K : PySem.W.Frag} {mg : Str → Option Value} {σ : L2.St} {H : Hp} {Q Q' : List V → Hp → Prop} (q : tH K mg Wx h σ H Q) (f : ∀ vs H', Q vs H' → Q' vs H') : tH K mg Wx h σ H Q' := by
  obtain ⟨ws, B0, sl, w, k, r0, nx, bk, ct, D0, e, q, h, g⟩ := q
  exact ⟨ws, B0, sl, w, k, r0, nx, bk, ct, D0, e, q, h, fun ws' w' H' vs F xs l e' nd hF sr qk => f _ _ (g ws' w' H' vs F xs l e' nd hF sr qk)⟩
theorem ms_par2 (hN : X.N.Nodup) (hi : X.N[i]? = some x) (hj : X.N[j]? = some y) (hij : i ≠ j) (hx : X.env.scope.names.lookup x = some .local) (hy : X.env.scope.names.lookup y = some .local) (ha : PHm X Wx [a, b] h) (hn : CntH 2 h)
    (hw : swappedStores [.Tuple [.Name x px, .Name y py] kt pt] (.Tuple [a, b] k2 pt2) X.env = pure (some [x, y]) := by rfl)
    (hs : swapsWithSole [.Tuple [.Name x px, .Name y py] kt pt] (.Tuple [a, b] k2 pt2) pos.line X.env = pure false := by rfl) (hc : X.calm = true := by rfl) :
    PSm X Wx (.Assign [.Tuple [.Name x px, .Name y py] kt pt] (.Tuple [a, b] k2 pt2) pos) (fun nx _ _ sl => h sl fun xs => nx (puts [i, j] xs sl)) := by
  refine (ps_par hc hN hi hj hij hx hy ha hw hs).mimp fun D0 σ H q => ?_
  refine tH_imp (par_go (is := [i, j]) hn D0 σ H q) fun vs H' ⟨hl, q⟩ => ?_
  match vs, hl with
  | [v, w], _ => exact ⟨v, w, rfl, q⟩
theorem ms_par3 (hN : X.N.Nodup) (hi : X.N[i]? = some x) (hj : X.N[j]? = some y) (hl : X.N[l]? = some z) (hij : i ≠ j) (hil : i ≠ l) (hjl : j ≠ l) (hx : X.env.scope.names.lookup x = some .local) (hy : X.env.scope.names.lookup y = some .local) (hz : X.env.scope.names.lookup z = some .local) (ha : PHm X Wx [a, b, c] h) (hn : CntH 3 h)
    (hw : swappedStores [.Tuple [.Name x px, .Name y py, .Name z pz] kt pt] (.Tuple [a, b, c] k2 pt2) X.env = pure (some [x, y, z]) := by rfl)
    (hs : swapsWithSole [.Tuple [.Name x px, .Name y py, .Name z pz] kt pt] (.Tuple [a, b, c] k2 pt2) pos.line X.env = pure false := by rfl) (hc : X.calm = true := by rfl) :
    PSm X Wx (.Assign [.Tuple [.Name x px, .Name y py, .Name z pz] kt pt] (.Tuple [a, b, c] k2 pt2) pos) (fun nx _ _ sl => h sl fun xs => nx (puts [i, j, l] xs sl)) := by
  refine (ps_par3 hc hN hi hj hl hij hil hjl hx hy hz ha hw hs).mimp fun D0 σ H q => ?_
  refine tH_imp (par_go (is := [i, j, l]) hn D0 σ H q) fun vs H' ⟨hl, q⟩ => ?_
  match vs, hl with
  | [u, v, w], _ => exact ⟨u, v, w, rfl, q⟩
end
end Pm
namespace Pm
open PySem PySem.Spec PyProof.Rows L2


section
variable {X : Cx} {Wx : WX} {a b c e : Expr} {es : List Expr} {pos p p' : Pos} {g : An}
theorem m_len (ha : PArm X Wx [a] g) (hm : X.mg "len" = none) (hg : Gl X "len" := by rfl) (he : starEach [a] X.env = (false, eval a X.env) :: starEach [] X.env := by rfl) : PEm X Wx (.Call (.Name "len" p) [a] [] pos) (fun sl => fCB lenF (g sl)) :=
  m_callB call_len cs_len ct_len hg hm PySem.boot_len ha (by decide) (by decide) he rfl
theorem m_abs (ha : PArm X Wx [a] g) (hm : X.mg "abs" = none) (hg : Gl X "abs" := by rfl) (he : starEach [a] X.env = (false, eval a X.env) :: starEach [] X.env := by rfl) : PEm X Wx (.Call (.Name "abs" p) [a] [] pos) (fun sl => fCB absF (g sl)) :=
  m_callB call_abs cs_abs ct_abs hg hm (by decide +kernel) ha (by decide) (by decide) he rfl
theorem m_sum (hc : X.calm = true) (ha : PArm X Wx [a] g) (hm : X.mg "sum" = none) (hg : Gl X "sum" := by rfl) (he : starEach [a] X.env = (false, eval a X.env) :: starEach [] X.env := by rfl) : PEm X Wx (.Call (.Name "sum" p) [a] [] pos) (fun sl => fCB sumF (g sl)) :=
  m_callB (cr_sum hc) cs_sum ct_sum hg hm (by decide +kernel) ha (by decide) (by decide) he rfl
theorem m_all (hc : X.calm = true) (ha : PArm X Wx [a] g) (hm : X.mg "all" = none) (hg : Gl X "all" := by rfl) (he : starEach [a] X.env = (false, eval a X.env) :: starEach [] X.env := by rfl) : PEm X Wx (.Call (.Name "all" p) [a] [] pos) (fun sl => fCB allF (g sl)) :=
  m_callB (cr_all hc) cs_all ct_all hg hm (by decide +kernel) ha (by decide) (by decide) he rfl
theorem m_tuple (ha : PArm X Wx [a] g) (hm : X.mg "tuple" = none) (hg : Gl X "tuple" := by rfl) (he : starEach [a] X.env = (false, eval a X.env) :: starEach [] X.env := by rfl) : PEm X Wx (.Call (.Name "tuple" p) [a] [] pos) (fun sl => fCB tupF (g sl)) :=
  m_callTy call_tuple_of cs_tup ct_tup hg hm (by decide +kernel) ha (by decide) (by decide) he rfl
theorem m_list (ha : PArm X Wx [a] g) (hm : X.mg "list" = none) (hg : Gl X "list" := by rfl) (he : starEach [a] X.env = (false, eval a X.env) :: starEach [] X.env := by rfl) : PEm X Wx (.Call (.Name "list" p) [a] [] pos) (fun sl => fCB lstF (g sl)) :=
  m_callTy call_list_of cs_lst ct_lst hg hm (by decide +kernel) ha (by decide) (by decide) he rfl
theorem m_max (hc : X.calm = true) (hu : X.A.units + 64 < cLine) (ha : PArm X Wx (e :: es) g) (hm : X.mg "max" = none) (hg : Gl X "max" := by rfl) (he : starEach (e :: es) X.env = (false, eval e X.env) :: starEach es X.env := by rfl) (hpl : (backTo pos (starEach es X.env)).any (·.1) = false := by rfl) : PEm X Wx (.Call (.Name "max" p) (e :: es) [] pos) (fun sl => fCB maxF (g sl)) :=
  m_callB (call_maxM hc hu) cs_big ct_big hg hm (by decide +kernel) ha (by decide) (by decide) he hpl
theorem m_min (hc : X.calm = true) (hu : X.A.units + 64 < cLine) (ha : PArm X Wx (e :: es) g) (hm : X.mg "min" = none) (hg : Gl X "min" := by rfl) (he : starEach (e :: es) X.env = (false, eval e X.env) :: starEach es X.env := by rfl) (hpl : (backTo pos (starEach es X.env)).any (·.1) = false := by rfl) : PEm X Wx (.Call (.Name "min" p) (e :: es) [] pos) (fun sl => fCB minF (g sl)) :=
  m_callB (call_minM hc hu) cs_big ct_big hg hm (by decide +kernel) ha (by decide) (by decide) he hpl
theorem m_isiN {T : String} {x : Str} {f : Dn} (ha : PRm X Wx a f) (hm : X.mg "isinstance" = none) (hx : X.mg x = none) (hgx : Gl X x) (hb : bootBuiltins x = some (.type T)) (hn : x ≠ "__name__" := by decide) (hd : (x == ("__debug__" : Str)) = false := by decide) (hg : Gl X "isinstance" := by rfl)
    (he : starEach (a :: [.Name x p']) X.env = (false, eval a X.env) :: starEach [.Name x p'] X.env := by rfl) (hpl : (backTo pos (starEach [.Name x p'] X.env)).any (·.1) = false := by rfl)
    (hs : starEach (.Name x p' :: []) X.env = (false, eval (.Name x p') X.env) :: starEach [] X.env := by rfl) : PEm X Wx (.Call (.Name "isinstance" p) [a, .Name x p'] [] pos) (fun sl => fIsi T (f sl)) :=
  m_isi ha hm (pe_bltn hgx hx hb rfl hn hd) hg he hpl hs
end


def newTown : M D := fun w => match w.town with
  | none => .ok .town ⟨some [], w.objs⟩
  | some _ => .bad
def twLen (x : D) : M D := fun w => match x, w.town with
  | .town, some l => .ok (.int l.length) w
  | _, _ => .bad
def twAt0 (x : D) : M D := fun w => match x, w.town with
  | .town, some (k :: _) => .ok (.int k) w
  | _, _ => .bad
def twTru (x : D) : M Bool := fun w => match x, w.town with
  | .town, some l => .ok (!l.isEmpty) w
  | _, _ => .bad
def twApp (x a : D) : M D := fun w => match x, a, w.town with
  | .town, .int k, some l => if l.length < sizeLine then .ok .non ⟨some (l ++ [k]), w.objs⟩ else .bad
  | _, _, _ => .bad
def twSet0 (x a : D) : M D := fun w => match x, a, w.town with
  | .town, .int k, some (_ :: l) => .ok .non ⟨some (k :: l), w.objs⟩
  | _, _, _ => .bad
section
variable {X : Cx} {Wx : WX} {e : Expr} {pos pos' p np apos cpos tpos : Pos} {x : Str} {f : Dn}
theorem town_at {K : PySem.W.Frag} {ws : Wa} {B0 : Addr → Prop} {sl : Ls} {w : W} {σ : L2.St} {H : Hp} {v : V} {B : Addr → Prop} {l : List Int} (e : Env K ws B0 sl w σ H) (hv : DR K ws B H v .town) (hl : w.town = some l) : ∃ a, v = .ref a ∧ ws.town = some a ∧ H a = some (.lst (l.map V.int)) := by
  cases hv with
  | town h =>
    have hw := e.wr.1
    unfold TW at hw
    rw [hl, h] at hw
    exact ⟨_, rfl, h, hw⟩
theorem nVar_at {K : PySem.W.Frag} {mg : Str → Option Value} {ws : Wa} {B0 : Addr → Prop} {sl : Ls} {w : W} {σ : L2.St} {H : Hp} {i : Nat} {α : Type} {g : D → M α} {k : Wa → W → α → Hp → Prop} (e : Env K ws B0 sl w σ H) (h : runAt K mg Wx ws B0 sl σ H (M.bind (nVar i sl) g w) k) : ∃ d v, σ[i]? = some (some v) ∧ DR K ws (Bad ws B0 sl σ) H v d ∧ runAt K mg Wx ws B0 sl σ H (g d w) k := by
  unfold nVar at h
  cases q : sl[i]? with
  | none => rw [q] at h; exact h.elim
  | some z =>
    rw [q] at h
    cases z with
    | no => exact h.elim
    | ow d => exact h.elim
    | va d =>
      obtain ⟨v, h1, h2⟩ := e.va i d q
      exact ⟨d, v, h1, h2, h⟩
theorem ms_town (i : Nat) (hN : X.N.Nodup) (hi : X.N[i]? = some x := by rfl) (hx : L2.Loc X.env.scope x := by first | exact Or.inl rfl | exact Or.inr rfl) (hs : swapsWith (.List [] p) (some (.Name x pos')) pos.line X.env = pure false := by rfl)
    (hf : X.fn x = true ∨ X.env.scope.names.lookup x = some .local := by first | exact .inl rfl | exact .inr rfl) : PSm X Wx (.Assign [.Name x pos'] (.List [] p) pos) (fun nx _ _ sl => newTown.bind fun d => nx (sl.set i (.va d))) := by
  refine (ps_set hN hi hx (pe_lst pa_nil) hs hf).mimp fun D0 σ H ⟨ws, B0, sl, w, nx, bk, ct, e, h⟩ => ?_
  refine ⟨by show 0 ≤ sizeLine; exact Nat.zero_le _, fun p hp => ?_⟩
  have h : Ans X.K X.mg Wx ws B0 sl σ H (M.bind newTown (fun d => nx (sl.set i (.va d))) w) nx bk ct D0 := h
  unfold M.bind newTown at h
  cases q : w.town with
  | some l => rw [q] at h; exact absurd rfl h.nb
  | none =>
    rw [q] at h
    obtain ⟨l1, e1⟩ := e.mkTown q hp
    obtain ⟨l2, e2⟩ := e1.put (i := i) (v := .ref p) (d := .town) (.town rfl)
    exact h.nx _ _ _ _ _ (l1.trans l2) e2 rfl
theorem m_twLen (i : Nat) (hm : X.mg "len" = none) (hN : X.N[i]? = some x := by rfl) (hv : Vis X.env.scope x := by first | exact Or.inl rfl | exact Or.inr (Or.inl rfl) | exact Or.inr (Or.inr rfl)) (hd : (x == ("__debug__" : Str)) = false := by decide)
    (hcd : (x == ("__classdict__" : Str)) = false := by decide) (hg : Gl X "len" := by rfl) (he : starEach [.Name x np] X.env = (false, eval (.Name x np) X.env) :: starEach [] X.env := by rfl) : PEm X Wx (.Call (.Name "len" p) [.Name x np] [] pos) (fun sl => (nVar i sl).bind twLen) := by
  refine (pe_callB call_len hg hm PySem.boot_len (pa_cons (pe_var hN hv hd hcd) pa_nil he) (by decide) (by decide) he rfl).mimp fun σ H Q ⟨ws, B0, sl, w, e, h⟩ => ?_
  obtain ⟨d, v, h1, h2, h⟩ := nVar_at e h
  refine ⟨v, h1, ?_⟩
  cases d <;> first | exact h.elim | skip
  cases q : w.town with
  | none => unfold twLen at h; rw [q] at h; exact h.elim
  | some l =>
    unfold twLen at h
    rw [q] at h
    obtain ⟨a, rfl, ht, hH⟩ := town_at e h2 q
    refine ⟨_, l.length, rfl, .inl ⟨_, .inl (.inl hH), by rw [List.length_map]⟩, runAt.here e h _ (.int _)⟩
theorem m_twAt0 (i : Nat) (hN : X.N[i]? = some x := by rfl) (hv : Vis X.env.scope x := by first | exact Or.inl rfl | exact Or.inr (Or.inl rfl) | exact Or.inr (Or.inr rfl)) (hd : (x == ("__debug__" : Str)) = false := by decide)
    (hcd : (x == ("__classdict__" : Str)) = false := by decide) {j : Nat} {p0 : Pos} (hs : PlainIx (.Constant (.int 0) j p0) := by exact fun _ _ => rfl) : PEm X Wx (.Subscript (.Name x np) (.Constant (.int 0) j p0) pos) (fun sl => (nVar i sl).bind twAt0) := by
  refine (pe_ix ix_seq (pe_var hN hv hd hcd) pe_int hs).mimp fun σ H Q ⟨ws, B0, sl, w, e, h⟩ => ?_
  obtain ⟨d, v, h1, h2, h⟩ := nVar_at e h
  refine ⟨v, h1, ?_⟩
  cases d <;> first | exact h.elim | skip
  cases q : w.town with
  | none => unfold twAt0 at h; rw [q] at h; exact h.elim
  | some l =>
    unfold twAt0 at h
    rw [q] at h
    cases l with
    | nil => exact h.elim
    | cons k l =>
      obtain ⟨a, rfl, ht, hH⟩ := town_at e h2 q
      refine .inl ⟨a, _, 0, .int k, rfl, rfl, .inl (.inl hH), ?_, runAt.here e h _ (.int _)⟩
      rw [List.map_cons]
      simp [atI, ixN]
theorem mt_tw (i : Nat) (hN : X.N[i]? = some x := by rfl) (hv : Vis X.env.scope x := by first | exact Or.inl rfl | exact Or.inr (Or.inl rfl) | exact Or.inr (Or.inr rfl)) (hd : (x == ("__debug__" : Str)) = false := by decide)
    (hcd : (x == ("__classdict__" : Str)) = false := by decide) (he : ∀ whole, isTrue (.Name x np) X.env whole = (do let v ← whole; standAt np; holding [v] (truthy v)) := by intro _; rfl) : PTm X Wx (.Name x np) (fun sl => (nVar i sl).bind twTru) := by
  refine (pt_truth (pe_var hN hv hd hcd) he).mimp fun σ H Q ⟨ws, B0, sl, w, e, h⟩ => ?_
  obtain ⟨d, v, h1, h2, h⟩ := nVar_at e h
  refine ⟨v, h1, ?_⟩
  cases d <;> first | exact h.elim | skip
  cases q : w.town with
  | none => unfold twTru at h; rw [q] at h; exact h.elim
  | some l =>
    unfold twTru at h
    rw [q] at h
    obtain ⟨a, rfl, ht, hH⟩ := town_at e h2 q
    exact ⟨!l.isEmpty, .inl ⟨_, .inl (.inl hH), by cases l <;> rfl⟩, runAt.here e h⟩
theorem ms_twApp (i : Nat) (he : PEm X Wx e f) (hN : X.N[i]? = some x := by rfl) (hv : Vis X.env.scope x := by first | exact Or.inl rfl | exact Or.inr (Or.inl rfl) | exact Or.inr (Or.inr rfl)) (hd : (x == ("__debug__" : Str)) = false := by decide)
    (hcd : (x == ("__classdict__" : Str)) = false := by decide) (hbase : attributeBase (.Name x np) "append" X.env (eval (.Name x np) X.env) = eval (.Name x np) X.env := by rfl)
    (hfew : ((backTo cpos (starEach (e :: []) X.env)).all (fun x => !x.1) && (backToKw cpos (keywordEach [] X.env)).all (fun x => x.1.isSome)
      && decide ((e :: ([] : List Expr)).length + ([] : List Keyword).length + (if ([] : List Keyword).isEmpty then 0 else 1) < 30)) = true := by rfl)
    (hline : (apos.endLine == cpos.line) = true := by rfl) (hs : starEach (e :: []) X.env = (false, eval e X.env) :: starEach [] X.env := by rfl) (hplain : (backTo cpos (starEach [] X.env)).any (·.1) = false := by rfl)
    (hsw : swapsWith (.Call (.Attribute (.Name x np) "append" apos) [e] [] cpos) none pos.line X.env = pure false := by rfl) :
    PSm X Wx (.Expr (.Call (.Attribute (.Name x np) "append" apos) [e] [] cpos) pos) (fun nx _ _ sl => nVaK i sl fun o => (twTru o).bind fun _ => (f sl).bind fun a => (twApp o a).bind fun _ => nx sl) := by
  refine (ps_expr (pe_bm PySem.F.plainAttrs_list PySem.F.slot_list_append PySem.F.type_list_append mt_append (pe_var hN hv hd hcd) (pa_cons he pa_nil hs) hbase hfew hline hs hplain) hsw).mimp fun D0 σ H ⟨ws, B0, sl, w, nx, bk, ct, e, h⟩ => ?_
  obtain ⟨d, hd, h⟩ := nVaK_of h
  obtain ⟨v, h1, h2⟩ := e.va i d hd
  cases d <;> first | exact absurd rfl h.nb | skip
  unfold M.bind twTru at h
  cases q : w.town with
  | none => rw [q] at h; exact absurd rfl h.nb
  | some l =>
    rw [q] at h
    simp only at h
    obtain ⟨a, rfl, ht, hH⟩ := town_at e h2 q
    refine ⟨_, h1, .inl ⟨rfl, _, .inl (.inl hH)⟩, ws, B0, sl, w, e, (Ans.bind (g := fun a => (twApp .town a).bind fun _ => nx sl) h).mono fun ws1 w1 b H1 l1 e1 h3 u hu => ?_⟩
    cases b <;> first | exact absurd rfl h3.nb | skip
    rename_i kk
    unfold M.bind twApp at h3
    cases q1 : w1.town with
    | none => rw [q1] at h3; exact absurd rfl h3.nb
    | some l2 =>
      rw [q1] at h3
      simp only at h3
      by_cases hz : l2.length < sizeLine
      · rw [if_pos hz] at h3
        obtain ⟨a', ha', ht', hH'⟩ := town_at e1 (h2.le l1) q1
        cases ha'
        cases hu
        obtain ⟨l5, e5⟩ := e1.mutTown (l' := l2 ++ [kk]) q1 ht'
        refine ⟨a, _, _, rfl, rfl, hH', by rw [List.length_map]; exact hz, ?_⟩
        have := h3.nx _ _ _ _ _ l5 e5 rfl
        rw [List.map_append] at this
        exact this
      · rw [if_neg hz] at h3
        exact absurd rfl h3.nb
theorem ms_twSet (i : Nat) {j : Nat} {p0 : Pos} (he : PEm X Wx e f) (hN : X.N[i]? = some x := by rfl) (hv : Vis X.env.scope x := by first | exact Or.inl rfl | exact Or.inr (Or.inl rfl) | exact Or.inr (Or.inr rfl)) (hd : (x == ("__debug__" : Str)) = false := by decide)
    (hcd : (x == ("__classdict__" : Str)) = false := by decide)
    (ha : ∀ v, assign (.Subscript (.Name x np) (.Constant (.int 0) j p0) tpos) X.env v = (do
      let ov ← holding [v] (eval (.Name x np) X.env)
      let iv ← holding [v, ov] (eval (.Constant (.int 0) j p0) X.env)
      standAt tpos
      holding [v, ov, iv] (setItem ov iv v)
      release [v, ov, iv] []) := by intro _; rfl)
    (hs : swapsWithSole [.Subscript (.Name x np) (.Constant (.int 0) j p0) tpos] e pos.line X.env = pure false := by rfl) (hw : swappedStores [.Subscript (.Name x np) (.Constant (.int 0) j p0) tpos] e X.env = pure none := by rfl)
    (h1 : (assignEach [.Subscript (.Name x np) (.Constant (.int 0) j p0) tpos] X.env).map (·.2) = [assign (.Subscript (.Name x np) (.Constant (.int 0) j p0) tpos) X.env] := by rfl) :
    PSm X Wx (.Assign [.Subscript (.Name x np) (.Constant (.int 0) j p0) tpos] e pos) (fun nx _ _ sl => (f sl).bind fun a => nVaK i sl fun o => (twSet0 o a).bind fun _ => nx sl) := by
  refine (ps_asg he (pg_sub (pe_var hN hv hd hcd) pe_int set_list ha) hs hw h1).mimp fun D0 σ H ⟨ws, B0, sl, w, nx, bk, ct, e, q⟩ => ?_
  refine ⟨ws, B0, sl, w, e, (Ans.bind q).mono fun ws1 w1 v H1 l1 e1 q1 u hu => ?_⟩
  obtain ⟨d, hd, h3⟩ := nVaK_of q1
  obtain ⟨r, p1, p2⟩ := e1.va i d hd
  refine ⟨r, p1, ?_⟩
  unfold M.bind twSet0 at h3
  cases d <;> first | exact absurd rfl h3.nb | skip
  cases v <;> first | exact absurd rfl h3.nb | skip
  rename_i kk
  cases q2 : w1.town with
  | none => rw [q2] at h3; exact absurd rfl h3.nb
  | some l2 =>
    rw [q2] at h3
    cases l2 with
    | nil => exact absurd rfl h3.nb
    | cons k0 l2 =>
      simp only at h3
      obtain ⟨a', rfl, ht', hH'⟩ := town_at e1 p2 q2
      cases hu
      obtain ⟨l5, e5⟩ := e1.mutTown (l' := kk :: l2) q2 ht'
      refine ⟨a', _, 0, 0, rfl, rfl, hH', by simp [ixN], ?_⟩
      exact h3.nx _ _ _ _ _ l5 e5 rfl
end


def Df (K : PySem.W.Frag) (mg : Str → Option Value) (x : Str) (st : Stmt) (ps : List Str) : Prop := ∃ f fd, Fun K x x st f fd ∧ mg x = some (.ref f) ∧ ∀ us : List Value, us.length = ps.length → bindArgs fd ⟨us, []⟩ = pure (ps.zip us)
def Cal (P : Program) (w : World) (K : PySem.W.Frag) (mg : Str → Option Value) (base : Heap) (k : Nat) (x : Str) (ps : List Str) (m : Mf) : Prop := ∃ f fd, mg x = some (.ref f) ∧ PySem.W.keepIn K (.ref f) = true ∧ Binds K fd ps [] ∧ FnOk P w K mg base (L2.CX P w) k f fd ps (spF K mg ps.length m)
section
variable {P : Program} {w : World} {K : PySem.W.Frag} {mg : Str → Option Value} {base : Heap}
theorem df_mk {x : Str} {st : Stmt} {f : Addr} {h : Heap} {ps : List Str} {oc : Value} {od an : Option Addr} {osl : Array (Option Value)} {kV doc pm cdv ct : Value} (X : K.In h) (G : h.Ns mainGlobals mg) (a : PySem.W.nsIn K mainGlobals x = some (some (.ref f)))
    (l : K.lookup f = some ⟨oc, od, .func (PySem.W.fnOf x x (defArgs st) (defBody st) (defScope st) .none kV doc pm an cdv ct), osl⟩) (c : PySem.W.codeIn K cdv x = true) (k : PySem.W.keepIn K (.ref f) = true)
    (hb : ∀ (kV doc pm : Value) (an : Option Addr) (cdv ct : Value) (us : List Value), us.length = ps.length → bindArgs (PySem.W.fnOf x x (defArgs st) (defBody st) (defScope st) .none kV doc pm an cdv ct) ⟨us, []⟩ = pure (ps.zip us)) : Df K mg x st ps := by
  have F := fun_mk (st := st) l c k
  exact ⟨f, _, F, PySem.W.mg_of X G a, hb _ _ _ _ _ _⟩
abbrev Bdy (P : Program) (w : World) (K : PySem.W.Frag) (mg : Str → Option Value) (base : Heap) (N : List Str) (np : Nat) (x : Str) (st : Stmt) (k : Nat) (m : Mf) : Prop := ∀ (f : Addr) (cdv : Value) (A : Around) (outer : List PySem.Env) (s : Shared) (H : Hp) (E : XK), Room k (A.deeper (envOfC x (defScope st) s.heap.objs.size f cdv)) →
      ∃ b, PSsm (cxOf (L2.CX P w) P w K mg base N x (defScope st) f cdv A outer s H E) (fun cls d _ H => E cls d H) (defBody st) b ∧ ∀ ds : List D, ds.length = np → runB b N.length ds = m ds
theorem fn_okX {x qual : Str} {st : Stmt} {f : Addr} {fd : FuncData} {N ps : List Str} {k : Nat} {m : Mf} (F : Fun K x qual st f fd) (Sc : FnScope N ps (defScope st))
    (hbody : ∀ (cdv : Value) (A : Around) (outer : List PySem.Env) (s : Shared) (H : Hp) (E : XK), Room k (A.deeper (envOfC qual (defScope st) s.heap.objs.size f cdv)) →
      ∃ b, PSsm (cxOf (L2.CX P w) P w K mg base N qual (defScope st) f cdv A outer s H E) (fun cls d _ H => E cls d H) (defBody st) b ∧ ∀ ds : List D, ds.length = ps.length → runB b N.length ds = m ds) : FnOk P w K mg base (L2.CX P w) (k + 1) f fd ps (spF K mg ps.length m) := by
  refine F.okX Sc (fun vs H Q E h => h.1) fun cdv A outer s H vs Q E hr h => ?_
  obtain ⟨b, hb, hm⟩ := hbody cdv A outer s H E hr
  refine ⟨_, hb, ?_⟩
  obtain ⟨hl, ws, B0, w1, ds, hw, hwd, hd, r, h⟩ := h
  obtain ⟨nO, e⟩ := env_start (N := N) hw hwd hd r
  rw [← hm ds (by rw [← r.length]; exact hl)] at h
  have po : ∀ {σ' : L2.St} {ws' : Wa} {sl' : Ls} {H' : Hp}, Le ws (Own (slStart N.length ds) (L2.start N vs)) H ws' (Own sl' σ') H' → Post ws H ws' H' := fun l =>
    ⟨l.wle, l.new, fun _ z => z.elim, fun a o h1 h2 _ => l.keep a o h1 h2 (nO a), l.ex⟩
  refine ⟨ws, B0, _, w1, fun _ => M.pure .non, fun _ => M.bad, fun _ => M.bad, e, ⟨fun z => ?_, ?_, ?_, ?_, ?_, ?_⟩⟩
  · have z : runB b N.length ds w1 = .bad := z
    rw [z] at h
    exact h
  · intro σ' ws' sl' w' H' l e' q
    have q : runB b N.length ds w1 = .ok .non w' := q.symm
    rw [q] at h
    exact h .non ws' H' (po l) e'.wr .non
  · intro σ' ws' sl' w' H' l e' q
    have q : runB b N.length ds w1 = .bad := q.symm
    rw [q] at h
    exact h.elim
  · intro σ' ws' sl' w' H' l e' q
    have q : runB b N.length ds w1 = .bad := q.symm
    rw [q] at h
    exact h.elim
  · intro d w' q σ' ws' sl' H' v l e' hv
    have q : runB b N.length ds w1 = .ok d w' := q
    rw [q] at h
    exact h v ws' H' (po l) e'.wr hv
  · intro c w' q σ' ws' sl' H' C hC l e'
    have q : runB b N.length ds w1 = .ex c w' := q
    rw [q] at h
    exact h ws' H' C hC (po l) e'.wr
theorem cal_of {x : Str} {st : Stmt} {N ps : List Str} {k np : Nat} {m : Mf} (F : Df K mg x st ps) (Sc : FnScope N ps (defScope st)) (hp : ps.length = np) (hbody : Bdy P w K mg base N np x st k m) : Cal P w K mg base (k + 1) x ps m := by
  obtain ⟨f, fd, F, hg, hb⟩ := F
  subst hp
  exact ⟨f, fd, hg, F.kp, .all hb, fn_okX F Sc (hbody f)⟩
theorem Cal.mono {j k : Nat} {x : Str} {ps : List Str} {m : Mf} (h : Cal P w K mg base j x ps m) (l : j ≤ k) : Cal P w K mg base k x ps m := by
  obtain ⟨f, fd, h1, h2, h3, h4⟩ := h
  exact ⟨f, fd, h1, h2, h3, h4.mono l⟩

end
section
variable {X : Cx} {Wx : WX} {e : Expr} {es : List Expr} {pos p : Pos} {x : Str} {g : An}
theorem m_cal {k np : Nat} {ps : List Str} {m : Mf} (C : Cal X.prog X.w X.K X.mg X.base k x ps m) (hp : ps.length = np) (hr : Room k X.A) (tk : Takes X Wx) (ha : PAm X Wx (e :: es) g) (hn : Cnt np g)
    (hg : Gl X x := by rfl) (hdb : (x == ("__debug__" : Str)) = false := by decide) (he : starEach (e :: es) X.env = (false, eval e X.env) :: starEach es X.env := by rfl) (hpl : (backTo pos (starEach es X.env)).any (·.1) = false := by rfl) :
    PEm X Wx (.Call (.Name x p) (e :: es) [] pos) (fun sl => fCall m (g sl)) := by
  obtain ⟨f, fd, h1, h2, h3, h4⟩ := C
  subst hp
  exact m_call h4 hn hr h1 h2 h3 tk ha hg hdb he hpl
end


def TBs (K : PySem.W.Frag) (mg : Str → Option Value) (base : Heap) : Prop := ∀ x ∈ makers, ∀ p, codeTab K x.1 = some p → LamX.TabB base mg p.1 p.2
def spLaw (K : PySem.W.Frag) : Sp := fun vs H Q _ => ∃ (a : Addr) (ns : List Int), vs = [.ref a] ∧ SqL K H a (ns.map V.int) ∧ ns.length ≤ 63 ∧ LamX.Tabs (tabsK K) H ∧ ∀ H', Q (.bl true) H'
theorem law_of {P : Program} {w : World} {K : PySem.W.Frag} {mg : Str → Option Value} {fa : Addr} {k : Nat} {x : Str} {m : Mf} {N : List Str} {st : Stmt} (hfa : mg "law" = some (.ref fa)) (F : Df K mg "law" st [x]) (Sc : FnScope N [x] (defScope st))
    (hm : ∀ ns : List Int, ns.length ≤ 63 → ∃ w', m [.scr ns] ⟨none, []⟩ = .ok (.bl true) w')
    (hbody : ∀ base : Heap, K.In base → base.Ns mainGlobals mg → TBs K mg base → Bdy P w K mg base N 1 "law" st k m) :
    ∃ fd : FuncData, (∀ (s : Shared) (u : Value), BindsTo s fd ⟨[u], []⟩ [(x, u)]) ∧ ∀ base : Heap, K.In base → base.Ns mainGlobals mg → TBs K mg base → FnOk P w K mg base (L2.CX P w) (k + 1) fa fd [x] (spLaw K) := by
  obtain ⟨f, fd, F, hg, hb⟩ := F
  cases hfa.symm.trans hg
  refine ⟨fd, fun s u => .of_eq (hb [u] rfl), fun base hB hG hTB => (fn_okX (m := m) F Sc (hbody base hB hG hTB fa)).imp fun vs H Q E h => ?_⟩
  obtain ⟨a, ns, rfl, hS, hl, hT, q⟩ := h
  obtain ⟨w', hw⟩ := hm ns hl
  have nT : ∀ {u : HO}, Rd H a u → (∀ ps, u ≠ .tbl ps) → a ∉ (tabsK K).map (·.1) := fun {u} r n z => by
    obtain ⟨p, hp, rfl⟩ := List.mem_map.mp z
    obtain ⟨ps, h1, _⟩ := hT p hp
    rcases r with r | ⟨o, r⟩
    · rw [h1] at r; cases r; exact n _ rfl
    · rw [h1] at r; cases r
  refine ⟨rfl, ⟨none, (tabsK K).map (·.1), []⟩, fun _ => False, ⟨none, []⟩, [.scr ns], ⟨trivial, ⟨rfl, hT⟩, ⟨rfl, (fun _ _ z => by simp at z), (fun _ z => by simp at z), (fun _ _ _ z => by simp at z), fun _ z => nomatch z⟩⟩, fun a z => z.elim, fun a z => z.elim, .cons (.scr ns ?_) .nil, ?_⟩
  · rcases hS with hS | hS
    · exact .inl ⟨fun z => z.elim (fun z => z.elim (fun z => nomatch z) (fun z => z.elim (nT hS fun ps z => by cases z) fun z => nomatch z)) id, hS⟩
    · exact .inr hS
  · rw [hw]
    intro v ws' H' _ _ hd
    cases hd
    exact q H'

section
variable {X : Cx} {Wx : WX} {pos : Pos} {x : Str}
inductive VD (K : PySem.W.Frag) : List Value → List D → Prop
  | nil : VD K [] []
  | int {i : Int} {t : Tok} {us : List Value} {ds : List D} : VD K us ds → VD K (.int i t :: us) (.int i :: ds)
  | str {x : Str} {t : Tok} {us : List Value} {ds : List D} : VD K us ds → VD K (.str x t :: us) (.str x :: ds)
end

def isND : D → D → Option D
  | x, .non => (match x with | .non => some (.bl true) | .town => none | .fn _ _ _ => none | .obj _ => none | .exc _ => none | .kt _ => none | _ => some (.bl false))
  | _, _ => none
def isNND : D → D → Option D
  | x, .non => (match x with | .non => some (.bl false) | .town => none | .fn _ _ _ => none | .obj _ => none | .exc _ => none | .kt _ => none | _ => some (.bl true))
  | _, _ => none

abbrev bmVE : List Value := [.type "ValueError", .type "Exception", .type "BaseException", .type "object"]
def Xk (K : PySem.W.Frag) (mg : Str → Option Value) (x : Str) : Prop := ∃ C : Addr, mg x = some (.ref C) ∧ PySem.W.excIn K C bmVE "ValueError.__new__" = true ∧ PySem.W.keepIn K (.ref C) = true ∧ PySem.W.subIn K (.ref C) (.type "BaseException") = some true ∧ PySem.W.typeIn K (.ref C) = some (.type "type")
def Xm (K : PySem.W.Frag) (mg : Str → Option Value) (x y : Str) (b : Bool) : Prop := ∃ C E : Addr, mg x = some (.ref C) ∧ mg y = some (.ref E) ∧ PySem.W.exmOne K (.ref E) (.ref C) = some b
section
variable {X : Cx} {Wx : WX} {pos p pos' np : Pos} {x : Str}
theorem ms_raiseX (c : Xk X.K X.mg x) (tk : Takes X Wx) (hc : X.calm = true := by rfl) (hg : Gl X x := by rfl) (hdb : (x == ("__debug__" : Str)) = false := by decide) : PSm X Wx (.Raise (some (.Call (.Name x p) [] [] pos)) none pos') (fun _ _ _ _ => M.raise x) := by
  obtain ⟨C, h1, h2, h3, h4, h5⟩ := c
  exact ms_raise PySem.F.excBase_ValueError h2 h1 h3 (raises_own h4 h5) tk hc hg hdb
theorem xk_mk {K : PySem.W.Frag} {mg : Str → Option Value} {h : Heap} {C : Addr} (X : K.In h) (G : h.Ns mainGlobals mg) (a : PySem.W.nsIn K mainGlobals x = some (some (.ref C))) (e : PySem.W.excIn K C bmVE "ValueError.__new__" = true) (k : PySem.W.keepIn K (.ref C) = true) (s : PySem.W.subIn K (.ref C) (.type "BaseException") = some true) (t : PySem.W.typeIn K (.ref C) = some (.type "type")) : Xk K mg x :=
  ⟨C, PySem.W.mg_of X G a, e, k, s, t⟩
end
end Pm
namespace Pm
open PySem PySem.Spec PyProof.Rows L2


section
variable {X : Cx} {Wx : WX} {a b e : Expr} {pos pos' p : Pos} {x : Str}
theorem msv {f : Dn} (i : Nat) (hN : X.N.Nodup) (he : PEm X Wx e f) (hi : X.N[i]? = some x := by rfl) (hx : L2.Loc X.env.scope x := by first | exact Or.inl rfl | exact Or.inr rfl) (hs : swapsWith e (some (.Name x pos')) pos.line X.env = pure false := by rfl)
    (hf : X.fn x = true ∨ X.env.scope.names.lookup x = some .local := by first | exact .inl rfl | exact .inr rfl) : PSm X Wx (.Assign [.Name x pos'] e pos) (fun nx _ _ sl => (f sl).bind fun d => nx (sl.set i (.va d))) := ms_set hN hi hx he hs hf
theorem mso {f : Dn} (i : Nat) (hN : X.N.Nodup) (he : PFm X Wx e f) (hi : X.N[i]? = some x := by rfl) (hx : L2.Loc X.env.scope x := by first | exact Or.inl rfl | exact Or.inr rfl) (hs : swapsWith e (some (.Name x pos')) pos.line X.env = pure false := by rfl)
    (hf : X.fn x = true ∨ X.env.scope.names.lookup x = some .local := by first | exact .inl rfl | exact .inr rfl) : PSm X Wx (.Assign [.Name x pos'] e pos) (fun nx _ _ sl => (f sl).bind fun d => nx (sl.set i (.ow d))) := ms_own hN hi hx he hs hf
end


def tB1 (K : PySem.W.Frag) (mg : Str → Option Value) (i : Nat) (m : Dn) (Wx : WX) : TS := fun D0 σ H => tE K mg Wx m σ H fun v H' => D0.nx (σ.set i (some v)) H'
abbrev PB1 (X : Cx) (Wx : WX) (i : Nat) (body : List Stmt) (m : Dn) : Prop := PSs X body (tB1 X.K X.mg i m Wx)
section
variable {X : Cx} {Wx : WX} {a b e c : Expr} {pos pos' p np : Pos} {x y : Str} {i : Nat} {m m' mh : Dn}
end
end Pm

namespace Pm
open PySem PySem.Spec PyProof.Rows L2 RZ PySem.W

structure Ap (z TI TO i1 i2 : Addr) (f1 f2 : List Addr) : Prop where
  TIz : TI ≠ z
  TOz : TO ≠ z
  i1z : i1 ≠ z
  i2z : i2 ≠ z
  TITO : TI ≠ TO
  TIi1 : TI ≠ i1
  TIi2 : TI ≠ i2
  TOi1 : TO ≠ i1
  TOi2 : TO ≠ i2
  i12 : i1 ≠ i2
  z1 : z ∉ f1
  o1 : TO ∉ f1
  j1 : i2 ∉ f1
  z2 : z ∉ f2
  o2 : TO ∉ f2
  j2 : i1 ∉ f2
section
variable {prog : Program} {w : World} {A : Around} {E : Value → Shared → Prop} {s : Shared} {z TI TO i1 i2 : Addr} {f1 f2 : List Addr} {n1 n2 k : Nat} {P1 P2 : Nat → Value → Prop} {S1 S2 : Nat → Heap → Prop}
def ZSt (lo z TI TO i1 i2 : Addr) (S1 S2 : Nat → Heap → Prop) (k : Nat) (h : Heap) : Prop := IsPair h TI (.ref i1) (.ref i2) ∧ S1 k h ∧ S2 k h ∧
  ((k = 0 ∧ IsZip h z TI TO .none ∧ ∃ a b, IsPair h TO a b) ∨ ∃ T f oT, IsZipHeld h z TI TO T f ∧ h.get? T = some oT ∧ T ≠ z ∧ T ≠ i1 ∧ T ≠ i2 ∧ T ≠ TO ∧ lo < T)
end
end Pm
namespace Pm
open PySem PySem.Spec PyProof.Rows L2 RZ PySem.W

structure PairsAt (P1 P2 : Nat → Value → Prop) (lo : Addr) (h : Heap) (as : List Addr) : Prop where
  rise : as.Pairwise (· < ·)
  above : ∀ a ∈ as, lo < a
  pairs : ∀ (j : Nat) (a : Addr), as[j]? = some a → ∃ x y, P1 j x ∧ P2 j y ∧ h.get? a = some { cls := .type "tuple", data := .seq #[x, y] }
theorem PairsAt.there {P1 P2 : Nat → Value → Prop} {lo : Addr} {h : Heap} {as : List Addr} (g : PairsAt P1 P2 lo h as) {a : Addr} (ha : a ∈ as) : a < h.objs.size := by
  obtain ⟨j, hj⟩ := List.mem_iff_getElem?.mp ha
  obtain ⟨_, _, _, _, e⟩ := g.pairs j a hj
  exact Heap.lt_size e
theorem PairsAt.keep {P1 P2 : Nat → Value → Prop} {lo : Addr} {h h' : Heap} {as : List Addr} (g : PairsAt P1 P2 lo h as) (k : ∀ b o, lo < b → h.get? b = some o → h'.get? b = some o) : PairsAt P1 P2 lo h' as :=
  ⟨g.rise, g.above, fun j a hj => let ⟨x, y, h1, h2, e⟩ := g.pairs j a hj; ⟨x, y, h1, h2, k a _ (g.above a (List.mem_of_getElem? hj)) e⟩⟩
structure Lt5 (S z TI TO i1 i2 : Addr) (f1 f2 : List Addr) : Prop where
  z : z < S
  TI : TI < S
  TO : TO < S
  i1 : i1 < S
  i2 : i2 < S
  f1 : ∀ b ∈ f1, b < S
  f2 : ∀ b ∈ f2, b < S
section
variable {prog : Program} {w : World} {A : Around} {E : Value → Shared → Prop} {s : Shared} {R : Result → Shared → Prop} {z TI TO i1 i2 : Addr} {f1 f2 : List Addr} {n1 n2 : Nat} {P1 P2 : Nat → Value → Prop} {S1 S2 : Nat → Heap → Prop}
theorem ZSt.keep {k : Nat} {h h' : Heap} {S : Addr} (D1 : Draws prog w A i1 f1 n1 P1 S1) (D2 : Draws prog w A i2 f2 n2 P2 S2) (st : ZSt S z TI TO i1 i2 S1 S2 k h) (L : Lt5 S z TI TO i1 i2 f1 f2) (kp : ∀ b o, b ≠ S → h.get? b = some o → h'.get? b = some o) : ZSt S z TI TO i1 i2 S1 S2 k h' := by
  obtain ⟨hTI, h1, h2, st⟩ := st
  refine ⟨kp _ _ (Nat.ne_of_lt L.TI) hTI, D1.frame _ _ _ h1 fun b hb o e => kp b o (Nat.ne_of_lt (L.f1 b hb)) e, D2.frame _ _ _ h2 fun b hb o e => kp b o (Nat.ne_of_lt (L.f2 b hb)) e, ?_⟩
  rcases st with ⟨e, hz, a, b, hTO⟩ | ⟨T, f, oT, hz, hT, t⟩
  · exact .inl ⟨e, kp _ _ (Nat.ne_of_lt L.z) hz, a, b, kp _ _ (Nat.ne_of_lt L.TO) hTO⟩
  · exact .inr ⟨T, f, oT, kp _ _ (Nat.ne_of_lt L.z) hz, kp _ _ (Nat.ne_of_gt t.2.2.2.2) hT, t⟩
end
end Pm
namespace Pm
open PySem PySem.Spec PyProof.Rows L2 RZ PySem.W

section
variable {fs ex : List Addr} {H H' : Hp} {h h' : Heap}
theorem Un.more (k : ∀ b u, h.get? b = some u → h'.get? b = some u) (g : ∀ b u, H b = some u → H' b = some u) (n : ∀ b u, H' b = some u → H b = some u ∨ h.objs.size ≤ b) : Un fs ex H H' h h' where
  keep := fun b u q _ _ _ => k b u q
  slot := fun b u q _ _ _ => ⟨u.slots, k b u q⟩
  free := fun b u q nb _ => by
    cases e : H' b with
    | none => rfl
    | some o =>
      rcases n b o e with z | z
      · rw [nb] at z; cases z
      · exact absurd (Heap.lt_size q) (Nat.not_lt.mpr z)
  there := fun b u q _ => ⟨u, k b u q⟩
  tups := fun b xs q => g b _ q
  frzs := fun b u xs q => g b _ q
  tbls := fun b ps q => ⟨#[], by rw [g b _ q]; simp⟩
theorem Inv.more {X : Cx} {pins : List (Addr × Obj)} {σ : L2.St} {s : Shared} {t' : Nat} (I : Inv X pins σ H s) (k : ∀ b u, s.heap.get? b = some u → h'.get? b = some u) (g : ∀ b u, H b = some u → H' b = some u)
    (n : ∀ b u, H' b = some u → H b = some u ∨ (s.heap.objs.size ≤ b ∧ ObjOk X.prog X.w H' h' b u)) : Inv X pins σ H' { s with heap := h', toks := t' } := by
  refine I.un (Un.more k g fun b u e => (n b u e).imp id fun z => z.1) fun b u e => ?_
  rcases n b u e with z | z
  · exact (I.hok b u z).stay (fun c v _ q => k c v q) (fun c q => g c _ q) fun c xs q => g c _ q
  · exact z.2
end
theorem PairsAt.lt {P1 P2 : Nat → Value → Prop} {lo : Addr} {h : Heap} {as : List Addr} (g : PairsAt P1 P2 lo h as) : as.Nodup := g.rise.imp fun h => Nat.ne_of_lt h

def fLz (g : M (List D)) : M D := g.bind fun l => match l with
  | [x, y] => (M.opt (zipD x y)).bind fun l => M.pure (.lst l)
  | _ => M.bad
end Pm
namespace Pm
open PySem PySem.Spec PyProof.Rows L2 RZ



def enumL : Nat → List D → List D
  | _, [] => []
  | n, x :: xs => .tup [.int n, x] :: enumL (n + 1) xs
def enumD : D → Option (List D)
  | .tup a => some (enumL 0 a)
  | .lst a => some (enumL 0 a)
  | _ => none
section
variable {K : PySem.W.Frag} {ws : Wa} {B : Addr → Prop} {H : Hp}
end
def fEnum (g : M (List D)) : M (List D) := g.bind fun l => match l with
  | [x] => M.opt (enumD x)
  | _ => M.bad
end Pm
namespace Pm
open PySem PySem.Spec PyProof.Rows L2 RZ


def inDs (x : D) (l : List D) : Bool := l.any fun z => deq z x
def ninD (x y : D) : Option D := match y with
  | .tup l => if okd 40 x = true ∧ l.all (okd 39) = true then some (.bl (!inDs x l)) else none
  | .lst l => if okd 40 x = true ∧ l.all (okd 39) = true then some (.bl (!inDs x l)) else none
  | _ => none
def rNotInT (K : PySem.W.Frag) : R2 := fun x y H Q => ∃ d ds, Dp K H x d ∧ Dp K H y (.tuple ds) ∧ SeqAt.shaped d = true ∧ SeqAt.shaped (.tuple ds) = true ∧ Q (.bl (!ds.any fun z => PyData.eqv z d)) H
theorem op_notInT {X : Cx} (hu : X.A.units + 65 < cLine) : OpR X (compareOp .NotIn) (rNotInT X.K) := by
  intro pins s σ H x y v u Q I rx ry h
  obtain ⟨d, ds, hd, he, sd, se, q⟩ := h
  obtain ⟨as, r1⟩ := Dp.reads I d x v hd rx
  obtain ⟨bs, r2⟩ := Dp.reads I (.tuple ds) y u he ry
  exact SeqAt.notIn_tuple_reads r2 r1 (SeqAt.canLay_of_shaped se) (SeqAt.canLay_of_shaped sd) (room_in_shaped sd hu) ⟨.bl _, H, I, rfl, q⟩
def rNotInM (K : PySem.W.Frag) : R2 := fun x y H Q => rNotInD K x y H Q ∨ rNotInT K x y H Q
theorem op_ninM {X : Cx} (hu : X.A.units + 65 < cLine) : OpR X (compareOp .NotIn) (rNotInM X.K) := (op_notInD hu).or (op_notInT hu)
theorem okd_up : ∀ {n : Nat} {x : D}, okd n x = true → okd (n + 1) x = true := by
  intro n
  induction n with
  | zero => intro x h; cases x <;> first | exact h | (simp [okd] at h; done) | rfl
  | succ n ih =>
    intro x h
    cases x with
    | tup l => rw [okd] at h ⊢; exact List.all_eq_true.mpr fun y hy => ih (List.all_eq_true.mp h y hy)
    | lst l => rw [okd] at h ⊢; exact List.all_eq_true.mpr fun y hy => ih (List.all_eq_true.mp h y hy)
    | _ => first | exact h | (simp [okd] at h; done)
theorem any_of {x : D} (hx : okd 40 x = true) : ∀ l : List D, l.all (okd 39) = true → ((toPys l).any fun z => PyData.eqv z (toPy x)) = inDs x l
  | [], _ => rfl
  | y :: l, h => by
    rw [List.all_cons, Bool.and_eq_true] at h
    have hy : okd 40 y = true := okd_up h.1
    rw [toPys, List.any_cons, deq_of 40 y x hy hx, any_of hx l h.2]; rfl
section
variable {K : PySem.W.Frag}
theorem so_nin : OpS K (rNotInM K) ninD := by
  intro ws B H x y dx dy d Q hb hx hy ho q
  cases dy <;> first
    | (simp [ninD] at ho; done)
    | skip
  · rename_i l
    simp only [ninD] at ho
    split at ho
    · rename_i hc
      cases ho
      have hl : okd 40 (.tup l) = true := by rw [okd]; exact hc.2
      refine .inr ⟨_, toPys l, dw_dp hc.1 hx, dw_dp hl hy, shaped_of hc.1 (by decide), shaped_of hl (by decide), ?_⟩
      rw [any_of hc.1 l hc.2]
      exact q _ _ (Grow.refl H) (.bl _)
    · cases ho
  · rename_i l
    simp only [ninD] at ho
    split at ho
    · rename_i hc
      cases ho
      have hl : okd 40 (.lst l) = true := by rw [okd]; exact hc.2
      refine .inl ⟨_, toPys l, dw_dp hc.1 hx, dw_dp hl hy, shaped_of hc.1 (by decide), shaped_of hl (by decide), ?_⟩
      rw [any_of hc.1 l hc.2]
      exact q _ _ (Grow.refl H) (.bl _)
    · cases ho
end
theorem un65 {k : Nat} {A : Around} (h : Room k A) : A.units + 65 < cLine := by have := h.un; omega
theorem ot_nin : OpT ninD := fun x y d h => by
  cases y <;> first
    | (simp [ninD] at h; done)
    | skip
  all_goals
    simp only [ninD] at h
    split at h
    · rename_i hc
      exact ⟨rdb_ok hc.1, rfl⟩
    · cases h
end Pm
namespace Pm
open PySem PySem.Spec PyProof.Rows L2 RZ


section
variable {X : Cx} {e : Expr} {es : List Expr}
variable {te : L2.St → Hp → (Int → Int → Nat → Hp → Prop) → Prop}
end
end Pm
namespace Pm
open PySem PySem.Spec PyProof.Rows L2 RZ


section
variable {X : Cx}
end
end Pm
namespace Pm
open PySem PySem.Spec PyProof.Rows L2 RZ


def valD (es : List (Key × D)) (k : Key) : Option D := (es.find? fun kv => decide (kv.1 = k)).map (·.2)
def putD (es : List (Key × D)) (k : Key) (d : D) : List (Key × D) := if (es.any fun kv => decide (kv.1 = k)) then es.map (fun kv => if kv.1 = k then (kv.1, d) else kv) else es ++ [(k, d)]
section
variable {K : PySem.W.Frag} {ws : Wa} {B : Addr → Prop} {H : Hp} {v : V} {d : D} {k : Key}
def KR (K : PySem.W.Frag) (ws : Wa) (B : Addr → Prop) (H : Hp) (kvs : List (Key × V)) (es : List (Key × D)) : Prop := kvs.map (·.1) = es.map (·.1) ∧ DRs K ws B H (kvs.map (·.2)) (es.map (·.2))
theorem KR.cons_of {p : Key × V} {kvs : List (Key × V)} {q : Key × D} {es : List (Key × D)} (h : KR K ws B H (p :: kvs) (q :: es)) : p.1 = q.1 ∧ DR K ws B H p.2 q.2 ∧ KR K ws B H kvs es := by
  obtain ⟨h1, h2⟩ := h
  simp only [List.map_cons, List.cons.injEq] at h1 h2
  cases h2 with | cons a b => exact ⟨h1.1, a, h1.2, b⟩
theorem KR.cons {p : Key × V} {kvs : List (Key × V)} {q : Key × D} {es : List (Key × D)} (h1 : p.1 = q.1) (h2 : DR K ws B H p.2 q.2) (h : KR K ws B H kvs es) : KR K ws B H (p :: kvs) (q :: es) :=
  ⟨by simp only [List.map_cons, h1, h.1], .cons h2 h.2⟩
theorem KR.val : ∀ {kvs : List (Key × V)} {es : List (Key × D)}, KR K ws B H kvs es → valD es k = some d → ∃ v, valV kvs k = some v ∧ DR K ws B H v d
  | [], [], _, e => by cases e
  | [], _ :: _, h, _ => by have := h.1; simp at this
  | _ :: _, [], h, _ => by have := h.1; simp at this
  | p :: kvs, q :: es, h, e => by
    obtain ⟨h1, h2, h3⟩ := h.cons_of
    unfold valD at e
    rw [List.find?_cons] at e
    by_cases z : q.1 = k
    · rw [decide_eq_true z] at e
      cases e
      exact ⟨p.2, valV_pos (h1.trans z), h2⟩
    · rw [decide_eq_false z] at e
      rw [valV_neg (by rw [h1]; exact z)]
      exact KR.val h3 e
theorem KR.len {kvs : List (Key × V)} {es : List (Key × D)} (h : KR K ws B H kvs es) : kvs.length = es.length := by have := congrArg List.length h.1; simpa using this
theorem KR.any {kvs : List (Key × V)} {es : List (Key × D)} (h : KR K ws B H kvs es) : (kvs.any fun kv => decide (kv.1 = k)) = es.any fun kv => decide (kv.1 = k) := by
  have e : ∀ {β : Type} (l : List (Key × β)), (l.any fun kv => decide (kv.1 = k)) = (l.map (·.1)).any fun z => decide (z = k) := fun l => by rw [List.any_map]; rfl
  rw [e, e, h.1]
theorem KR.rep : ∀ {kvs : List (Key × V)} {es : List (Key × D)}, KR K ws B H kvs es → DR K ws B H v d → KR K ws B H (kvs.map fun kv => if kv.1 = k then (kv.1, v) else kv) (es.map fun kv => if kv.1 = k then (kv.1, d) else kv)
  | [], [], _, _ => ⟨rfl, .nil⟩
  | [], _ :: _, h, _ => by have := h.1; simp at this
  | _ :: _, [], h, _ => by have := h.1; simp at this
  | p :: kvs, q :: es, h, hd => by
    obtain ⟨h1, h2, h3⟩ := h.cons_of
    rw [List.map_cons, List.map_cons]
    refine .cons ?_ ?_ (KR.rep h3 hd)
    · rw [h1]; split
      · rfl
      · exact h1
    · rw [h1]; split
      · exact hd
      · exact h2
theorem KR.put {kvs : List (Key × V)} {es : List (Key × D)} (h : KR K ws B H kvs es) (hd : DR K ws B H v d) : KR K ws B H (putK kvs k v) (putD es k d) := by
  unfold putK putD
  rw [h.any]
  split
  · exact h.rep hd
  · refine ⟨by simp [h.1], ?_⟩
    rw [List.map_append, List.map_append]
    exact h.2.append (.one hd)
end


def del (H : Hp) (p : Addr) : Hp := fun a => if a = p then none else H a
theorem del_ne {H : Hp} {p a : Addr} (h : a ≠ p) : del H p a = H a := if_neg h
section
variable {K : PySem.W.Frag} {ws : Wa} {B0 B' : Addr → Prop} {sl : Ls} {w : W} {σ : L2.St} {H : Hp} {p : Addr}
theorem Env.drop (e : Env K ws B' sl w σ H) (hB : ∀ a, B0 a → B' a) (hp : B' p) (hn : ¬ B0 p) (hw : ¬ ws.has p) (hx : BxO (H p)) : Env K ws B0 sl w σ (del H p) := by
  have hk : ∀ a o, H a = some o → ¬ Bad ws B' sl σ a → del H p a = some o := fun a o h n => by rw [del_ne (fun z => n (.inr (.inl (by rw [z]; exact hp))))]; exact h
  have hb : ∀ a, Bad ws B0 sl σ a → Bad ws B' sl σ a ∨ H a = none := fun a z => .inl (z.imp id fun q => q.imp (hB a) id)
  have hne : ∀ {i : Nat} {d : D} {a : Addr}, sl[i]? = some (.ow d) → σ[i]? = some (some (.ref a)) → a ≠ p := fun {i d a} h1 h2 z => by
    obtain ⟨b, q1, _, _, q4⟩ := e.ow i d h1
    rw [h2] at q1
    cases q1
    exact q4 (by rw [z]; exact hp)
  refine ⟨e.len, ?_, fun a h => ?_, fun a h => ?_, fun i d h => ?_, fun i d h => ?_, e.uq⟩
  · refine ⟨?_, e.wr.2.keep (fun a o h z => by rw [del_ne (fun q => hw (by rw [← q]; exact z))]; exact h) (fun a φ h => by rw [del_ne (fun q => hx.nx φ (by rw [← q]; exact h))]; exact h), e.wr.3.keep (fun a xs z => ?_) fun a o z l => by rw [del_ne (fun q => hw (by rw [← q]; exact .inr (.inr l)))]; exact z⟩
    case refine_2 =>
      have n : a ≠ p := fun q => by subst q; exact hx.nt z
      rw [del_ne n]; exact z
    have q := e.wr.1
    unfold TW at q ⊢
    split
    · trivial
    · rename_i l t e1 e2
      rw [e1, e2] at q
      rw [del_ne (fun z => hw (.inl (by rw [← z]; exact e2)))]
      exact q
    · rename_i h1 h2
      split at q
      · rename_i e1 e2; exact h1 e1 e2
      · rename_i e1 e2; exact h2 _ _ e1 e2
      · exact q
  · rw [del_ne (fun z => hn (by rw [← z]; exact h))]; exact e.bx a (hB a h)
  · rw [del_ne (fun z => hn (by rw [← z]; exact h))]; exact e.dom a (hB a h)
  · obtain ⟨v, q1, q2⟩ := e.va i d h
    exact ⟨v, q1, q2.keep ws.le_refl hk hb⟩
  · obtain ⟨a, q1, q2, q3, q4⟩ := e.ow i d h
    refine ⟨a, q1, ?_, q3, fun z => q4 (hB a z)⟩
    have hne' := hne h q1
    cases d <;> first
      | exact q2.elim
      | (obtain ⟨vs, r1, r2, r3⟩ := q2; exact ⟨vs, by rw [del_ne hne']; exact r1, r2, r3.keep ws.le_refl hk hb⟩)
end


def tP (K : PySem.W.Frag) (mg : Str → Option Value) (Wx : WX) (ks : List Str) (g : An) : L2.St → Hp → (List (V × V) → Hp → Prop) → Prop := fun σ H Q => ∃ ws B0 sl w, Env K ws B0 sl w σ H ∧ runAt K mg Wx ws B0 sl σ H (g sl w) fun ws' _ ds H' => ds.length = ks.length ∧ ∀ vs, DRs K ws' (Bad ws' B0 sl σ) H' vs ds → Q ((ks.map V.str).zip vs) H'
structure PPm (X : Cx) (Wx : WX) (pos : Pos) (keys : List (Option Expr)) (values : List Expr) (ks : List Str) (g : An) : Prop where
  get : ∃ trs, PPs X pos keys values trs ∧ ∀ σ H Q, tP X.K X.mg Wx ks g σ H Q → tPairs trs σ H Q
section
variable {X : Cx} {Wx : WX} {pos : Pos} {keys : List (Option Expr)} {values : List Expr} {ks : List Str} {g : An}

end


section
variable {X : Cx} {Wx : WX} {o e : Expr} {pos np apos cpos : Pos} {x : Str} {i : Nat} {f : Dn}
end


section
variable {X : Cx} {Wx : WX} {pos p : Pos} {x : Str}
end
end Pm
namespace Pm
open PySem PySem.Spec PyProof.Rows L2 RZ


section
variable {prog : Program} {w : World} {A : Around} {E : Value → Shared → Prop} {s : Shared}
theorem sliceApplied_rev {sl : Addr} {vs : Value} {n : Nat} {Q : Int × Int × Nat → Shared → Prop} (hs : s.heap.IsSliceOf sl .none .none vs) (ps : IsPart vs (some (-1)))
    (h : Q ((n : Int) - 1, -1, n) s) : wpAny (model prog w) A (Builtin.Slice.sliceApplied (.ref sl) (pure (n : Int))) Q E s := by
  obtain ⟨os, hos, hcs, hds⟩ := id hs
  unfold Builtin.Slice.sliceApplied Builtin.Slice.sliceFields
  refine wpAny_bind (wpAny_bind (wpAny_field hos hds (x := .none) rfl (wpAny_bind (wpAny_field hos hds (x := .none) rfl (wpAny_bind (wpAny_field hos hds (x := vs) rfl (wpAny_pure ?_)))))))
  refine wpAny_bind (HT.slicePart_ ps ?_)
  show wpAny _ _ (if ((-1 : Int) == 0) = true then _ else _) _ _ s
  rw [if_neg (by decide)]
  refine wpAny_bind (HT.slicePart_ .none (wpAny_bind (HT.slicePart_ .none (wpAny_bind (wpAny_pure ?_)))))
  show wpAny _ _ (match Builtin.Slice.sliceAdjust none none (-1) (n : Int) with | (lo, hi) => pure (lo, (-1 : Int), Builtin.Slice.slicePlaces lo hi (-1))) _ _ s
  have e : Builtin.Slice.sliceAdjust none none (-1) (n : Int) = ((n : Int) - 1, -1) := by
    first | rfl | simp [Builtin.Slice.sliceAdjust]
  rw [e]
  have e2 : Builtin.Slice.slicePlaces ((n : Int) - 1) (-1) (-1) = n := by
    unfold Builtin.Slice.slicePlaces
    simp
    omega
  show wpAny _ _ (pure ((n : Int) - 1, (-1 : Int), Builtin.Slice.slicePlaces ((n : Int) - 1) (-1) (-1))) _ _ s
  rw [e2]
  exact wpAny_pure h
theorem pick_rev (xs : Array Value) : ((List.range xs.size).filterMap fun (m : Nat) => xs[((xs.size : Int) - 1 + (m : Int) * (-1)).toNat]?).toArray = xs.toList.reverse.toArray := by
  congr 1
  have e : (List.range xs.size).filterMap (fun (m : Nat) => xs[((xs.size : Int) - 1 + (m : Int) * (-1)).toNat]?) = ((List.range xs.size).map (fun k => xs.size - 1 - k)).filterMap (xs[·]?) := by
    rw [List.filterMap_map]
    congr 1
    funext m
    have : ((xs.size : Int) - 1 + (m : Int) * (-1)).toNat = xs.size - 1 - m := by omega
    rw [this]; rfl
  rw [e, PySem.W.krv_range, List.filterMap_reverse, PySem.W.krv_all]
theorem getItem_tuple_rev {t sl : Addr} {items : Array Value} {vs : Value} {Q : Value → Shared → Prop} (ht : IsTup s.heap t items) (hs : s.heap.IsSliceOf sl .none .none vs) (ps : IsPart vs (some (-1)))
    (h : Q (.ref s.heap.objs.size) { s with heap := s.heap.push { cls := .type "tuple", data := .seq items.toList.reverse.toArray } })
    (hsz : items.size ≤ sizeLine) : wpAny (model prog w) A (getItem (.ref t) (.ref sl)) Q E s := by
  have htake : sizeOk (.seq items.toList.reverse.toArray) := by
    show items.toList.reverse.toArray.size ≤ sizeLine
    rw [List.size_toArray, List.length_reverse, Array.length_toList]
    omega
  obtain ⟨os, hos, hcs, hds⟩ := id hs
  have hTs : s.TypeIs (.ref sl) "slice" := ⟨os, hos, hcs⟩
  unfold getItem
  try with_reducible refine wpAny_holding ?_
  first | refine wpAny_bind (wpAny_pure ?_) | skip
  refine wpAny_bind (wpAny_sequenceKey ht.typeIs (by decide) ?_)
  refine wpAny_bind (wpAny_callSpecial?_slot (name := Str.ofString "__getitem__") ht.typeIs PyProof.Rows.slot_tuple_getitem
    (wpAny_call_entry PyProof.Rows.slot_tuple_getitem ht.typeIs entry_tuple_getitem ?_ (args_tuple_getitem _ _)))
  show wpAny _ _ (Builtin.Tuple.tupleItemsOf (.ref t) >>= _) _ _ s
  refine wpAny_bind (tupleItemsOf_ ht ?_)
  refine wpAny_bind (wpAny_typeOf hTs ?_)
  rw [if_pos (by decide)]
  refine wpAny_bind (sliceApplied_rev hs ps ?_)
  have hno : ¬ (((items.size : Int) - 1 == 0 && (-1 : Int) == 1 && items.size == items.size) = true) := by simp
  show wpAny _ _ (if ((items.size : Int) - 1 == 0 && (-1 : Int) == 1 && items.size == items.size) = true then _ else _) _ _ s
  rw [if_neg hno, pick_rev]
  first
    | exact wpAny_bind (m := Builtin.Tuple.tupleExact _) (wpAny_newObj_type (wpAny_pure ⟨_, rfl, wpAny_pure h⟩) htake)
    | exact wpAny_bind (m := Builtin.Tuple.tupleExact _) (wpAny_newObj_type (wpAny_bind (wpAny_pure (wpAny_pure ⟨_, rfl, wpAny_pure h⟩))) htake)
    | exact wpAny_bind (wpAny_bind (m := Builtin.Tuple.tupleExact _) (wpAny_newObj_type (wpAny_pure (wpAny_pure ⟨_, rfl, wpAny_pure h⟩)) htake))
    | exact wpAny_bind (wpAny_bind (m := Builtin.Tuple.tupleExact _) (wpAny_newObj_type (wpAny_pure ⟨_, rfl, wpAny_pure h⟩) htake))
end

section
variable {X : Cx}
def tRev (K : PySem.W.Frag) (te : TE) : TE := fun σ H Q => te σ H fun x H1 => (∃ a xs, x = .ref a ∧ SqL K H1 a xs ∧ ∀ p, H1 p = none → Q (.ref p) (upd H1 p (.lst xs.reverse))) ∨ ∃ a xs, x = .ref a ∧ SqT K H1 a xs ∧ ∀ p, H1 p = none → Q (.ref p) (upd H1 p (.tup xs.reverse))
theorem pe_rev {e : Expr} {te : TE} {k : Nat} {p1 p2 p3 pos : Pos} (he : PE X e te) : PE X (.Subscript e (.Slice none none (some (.UnaryOp .USub (.Constant (.int 1) k p1) p2)) p3) pos) (tRev X.K te) := by
  refine ⟨fun pins s σ H Q I h => ?_⟩
  refine Subscript_ (thn (he.run pins s σ H _ I h) fun v s1 ⟨x, H1, I1, r1, q1⟩ => ?_)
  have hst : PO X (some (.UnaryOp .USub (.Constant (.int 1) k p1) p2)) (tPart (tUn (rU fun i => .int (-i)) (tC (.int 1)))) := po_some (pe_un un_neg pe_int)
  rcases q1 with ⟨a, xs, ex, hx, q⟩ | ⟨a, xs, ex, hx, q⟩
  · subst ex
    cases r1
    refine wpAny_Slice (thn (po_none.run pins s1 σ H1 (fun o H2 => o = none ∧ H2 = H1) I1 ⟨rfl, rfl⟩) fun vl s2 ⟨l, H2, I2, pl, el, e2⟩ => ?_)
    subst el e2
    refine thn (po_none.run pins s2 σ H2 (fun o H3 => o = none ∧ H3 = H2) I2 ⟨rfl, rfl⟩) fun vu s3 ⟨u, H3, I3, pu, eu, e3⟩ => ?_
    subst eu e3
    refine thn (hst.run pins s3 σ H3 (fun o H4 => o = some (-1) ∧ H4 = H3) I3 ⟨1, rfl, -1, rfl, rfl, rfl⟩) fun vs s4 ⟨o, H4, I4, ps, eo, e4⟩ => ?_
    subst eo e4
    have I5 : Inv X pins σ H4 { s4 with heap := s4.heap.push { cls := .type "slice", data := .fields #[vl, vu, vs] } } := I4.kept (t' := s4.toks) fun b ob q => Heap.get?_push_of_some _ q
    obtain ⟨its, r, ht, hz⟩ := I5.list hx
    have hlen := r.length
    show wpAny (model X.prog X.w) X.A (subscriptTail e (.Slice none none (some (.UnaryOp .USub (.Constant (.int 1) k p1) p2)) p3) (.ref a) (.ref s4.heap.objs.size)) (EP X pins σ Q) X.xe { s4 with heap := s4.heap.push { cls := .type "slice", data := .fields #[vl, vu, vs] } }
    refine tail_any (ops := [.ref a, .ref s4.heap.objs.size]) ht.isList.typeIs (PySem.slot_list_getitem.lookup) ?_ (by with_unfolding_all rfl)
    refine wpAny_getItem_list_slice ht.isList (Heap.IsSliceOf.new _ vl vu vs) pl pu ps (by decide) ?_ (by rw [List.size_toArray]; omega)
    rw [PySem.W.krv_pick]
    refine ⟨.ref _, _, I5.laid (t' := s4.toks) (o := .lst xs.reverse) (fun b ob q => Heap.get?_push_of_some _ q) (Nat.le_refl _) ?_, rfl, q _ (I5.hok.fresh (Nat.le_refl _))⟩
    exact ⟨by rw [List.length_reverse]; exact hz, _, 0, r.reverse, Heap.get?_push_size _ rfl⟩
  · subst ex
    cases r1
    refine wpAny_Slice (thn (po_none.run pins s1 σ H1 (fun o H2 => o = none ∧ H2 = H1) I1 ⟨rfl, rfl⟩) fun vl s2 ⟨l, H2, I2, pl, el, e2⟩ => ?_)
    subst el e2
    refine thn (po_none.run pins s2 σ H2 (fun o H3 => o = none ∧ H3 = H2) I2 ⟨rfl, rfl⟩) fun vu s3 ⟨u, H3, I3, pu, eu, e3⟩ => ?_
    subst eu e3
    refine thn (hst.run pins s3 σ H3 (fun o H4 => o = some (-1) ∧ H4 = H3) I3 ⟨1, rfl, -1, rfl, rfl, rfl⟩) fun vs s4 ⟨o, H4, I4, ps, eo, e4⟩ => ?_
    subst eo e4
    have I5 : Inv X pins σ H4 { s4 with heap := s4.heap.push { cls := .type "slice", data := .fields #[vl, vu, vs] } } := I4.kept (t' := s4.toks) fun b ob q => Heap.get?_push_of_some _ q
    obtain ⟨its, r, ht, hz⟩ := I5.tuple hx
    have hlen := r.length
    cases pl
    cases pu
    show wpAny (model X.prog X.w) X.A (subscriptTail e (.Slice none none (some (.UnaryOp .USub (.Constant (.int 1) k p1) p2)) p3) (.ref a) (.ref s4.heap.objs.size)) (EP X pins σ Q) X.xe { s4 with heap := s4.heap.push { cls := .type "slice", data := .fields #[.none, .none, vs] } }
    refine tail_any (ops := [.ref a, .ref s4.heap.objs.size]) ht.typeIs (PyProof.Rows.slot_tuple_getitem.lookup) ?_ (by with_unfolding_all rfl)
    refine getItem_tuple_rev ht (Heap.IsSliceOf.new _ .none .none vs) ps ?_ (by rw [List.size_toArray]; omega)
    refine ⟨.ref _, _, I5.laid (t' := s4.toks) (o := .tup xs.reverse) (fun b ob q => Heap.get?_push_of_some _ q) (Nat.le_refl _) ?_, rfl, q _ (I5.hok.fresh (Nat.le_refl _))⟩
    exact ⟨by rw [List.length_reverse]; exact hz, _, r.reverse, IsTup.new _ _⟩
def revD : D → Option D
  | .tup l => some (.tup l.reverse)
  | .lst l => some (.lst l.reverse)
  | _ => none
def fRev (x : M D) : M D := x.bind fun d => M.opt (revD d)
theorem m_rev {Wx : WX} {e : Expr} {f : Dn} {k : Nat} {p1 p2 p3 pos : Pos} (he : PRm X Wx e f) : PEm X Wx (.Subscript e (.Slice none none (some (.UnaryOp .USub (.Constant (.int 1) k p1) p2)) p3) pos) (fun sl => fRev (f sl)) := by
  refine (pe_rev he).mimp fun σ H Q ⟨ws, B0, sl, w, e, h⟩ => ?_
  refine ⟨ws, B0, sl, w, e, (runAt.bind h).mono fun ws1 w1 d H1 l1 e1 h1 v hv => ?_⟩
  obtain ⟨d', q, h2⟩ := runAt.opt h1
  cases d <;> cases q
  · obtain ⟨z, a, vs, rfl, t, r⟩ := e1.rv hv rfl
    refine .inr ⟨a, vs, rfl, t.sq, fun p hp => runAt.grow (Grow.new hp) e1 h2 _ ?_⟩
    exact .tup (by rw [List.length_reverse]; exact z) (.inl ⟨e1.fresh hp, upd_same⟩) ((r.reverse).grow (Grow.new hp))
  · obtain ⟨z, a, vs, rfl, t, r⟩ := e1.rv hv rfl
    refine .inl ⟨a, vs, rfl, .inl (.inl t), fun p hp => runAt.grow (Grow.new hp) e1 h2 _ ?_⟩
    exact .lst (by rw [List.length_reverse]; exact z) (e1.fresh hp) upd_same ((r.reverse).grow (Grow.new hp))
end


section
variable {K : PySem.W.Frag}
end
section
variable {X : Cx} {Wx : WX} {a : Expr} {pos p : Pos} {g : An}
end


section
variable {K : PySem.W.Frag}
end
section
variable {X : Cx} {Wx : WX} {a : Expr} {pos p : Pos} {g : An}
end
end Pm
namespace Pm
open PySem PySem.Spec PyProof.Rows L2 RZ

theorem cnt_c4 {n : Nat} {a b c d : Dn} {g : An} (h : Cnt n g) : Cnt (n + 4) (fun sl => fCons (a sl) (fCons (b sl) (fCons (c sl) (fCons (d sl) (g sl))))) := cnt_cons (f := a) (cnt_cons (f := b) (cnt_cons (f := c) (cnt_cons (f := d) h)))
end Pm
namespace Pm
open PySem PySem.Spec PyProof.Rows L2 RZ

section
variable {X : Cx}
end
section
variable {K : PySem.W.Frag}
end

section
variable {X : Cx}
end
section
variable {K : PySem.W.Frag}
end
section
variable {X : Cx} {Wx : WX} {a : Expr} {pos p : Pos} {g : An}
end
end Pm
namespace Pm
open PySem PySem.Spec PyProof.Rows L2 RZ

theorem an {x y : Nat} (h : x ≠ y) : @Ne Addr x y := h
section
variable {prog : Program} {w : World} {A : Around} {E : Value → Shared → Prop} {s : Shared}
variable {N a b c : Nat} {k : Nat} {xs ys zs : Array Value} {x y u p q r : Value}
end

section
variable {prog : Program} {w : World} {A : Around} {E : Value → Shared → Prop} {s : Shared}
end
end Pm
namespace Pm
open PySem PySem.Spec PyProof.Rows L2 RZ
section
variable {K : PySem.W.Frag} {ws : Wa} {B : Addr → Prop} {H : Hp}
end
end Pm
namespace Pm
open PySem PySem.Spec PyProof.Rows L2 RZ

theorem KR.none {K : PySem.W.Frag} {ws : Wa} {B : Addr → Prop} {H : Hp} {k : Key} : ∀ {kvs : List (Key × V)} {es : List (Key × D)}, KR K ws B H kvs es → valD es k = none → valV kvs k = none
  | [], _, _, _ => rfl
  | _ :: _, [], h, _ => by have := h.1; simp at this
  | p :: kvs, q :: es, h, e => by
    obtain ⟨h1, h2, h3⟩ := h.cons_of
    unfold valD at e
    rw [List.find?_cons] at e
    by_cases z : q.1 = k
    · rw [decide_eq_true z] at e
      cases e
    · rw [decide_eq_false z] at e
      rw [valV_neg (by rw [h1]; exact z)]
      exact KR.none h3 e
end Pm
namespace Pm
open PySem PySem.Spec PyProof.Rows L2 RZ

section
variable {X : Cx} {Wx : WX} {h : Hk} {a b c : Expr} {x y z : Str} {i j l : Nat} {px py pz pt pos : Pos} {kt k2 : Nat} {pt2 : Pos}
end
end Pm
namespace Pm
open PySem PySem.Spec PyProof.Rows L2 RZ

inductive MHd (X : Cx) (j : Nat) : List ExceptHandler → List (List (Str × Bool) × Dn) → Prop
  | nil : MHd X j [] []
  | cons {x : Str} {T : List (Str × Bool)} {mh : Dn} {b₀ : Stmt} {np pos' : Pos} {hds : List ExceptHandler} {cl : List (List (Str × Bool) × Dn)} (cx : Xk X.K X.mg x) (hg : Gl X x) (hdb : (x == ("__debug__" : Str)) = false) (hT : ∀ y k, T.lookup y = some k → Xm X.K X.mg x y k)
      (hsu : ∀ (a : Addr) (oe : Obj) (pn : List (Addr × Obj)), PB1 (X.suite a ((a, oe) :: pn)) W0 j [b₀] mh) (r : MHd X j hds cl) : MHd X j (.ExceptHandler (some (.Name x np)) none [b₀] pos' :: hds) ((T, mh) :: cl)
end Pm
namespace Pm
open PySem PySem.Spec PyProof.Rows L2


section
open Classical
end
section
variable {H H' H0 : Hp} {S : Addr → Prop} {a : Addr} {h h' : Heap} {P : Program} {w : World} {fs : List Addr}
end

section
variable {K : PySem.W.Frag} {ws ws' : Wa} {B B' : Addr → Prop} {H H' : Hp}
theorem okd_keepAll {n : Nat} (ih : ∀ v d, okd n d = true → DR K ws B H v d → DR K ws' B' H' v d) : ∀ {vs : List V} {ds : List D}, DRs K ws B H vs ds → ds.all (okd n) = true → DRs K ws' B' H' vs ds
  | _, _, .nil, _ => .nil
  | _, _, .cons h r, q => by
    simp only [List.all_cons, Bool.and_eq_true] at q
    exact .cons (ih _ _ q.1 h) (okd_keepAll ih r q.2)
theorem okd_keep (ht : ∀ a u, H a = some (.tup u) → ¬ B a → H' a = some (.tup u)) (hz : ∀ a o u, H a = some (.frz o (.tup u)) → ¬ B a → H' a = some (.frz o (.tup u))) (hl : ∀ a u, H a = some (.lst u) → ¬ B a → H' a = some (.lst u)) (hb : ∀ a, H a ≠ none → B' a → B a) : ∀ (n : Nat) (v : V) (d : D), okd n d = true → DR K ws B H v d → DR K ws' B' H' v d := by
  intro n
  induction n with
  | zero => intro v d h r; cases r <;> first | exact .non | exact .bl _ | exact .int _ | exact .str _ | (simp [okd] at h; done)
  | succ n ih =>
    intro v d h r
    cases r with
    | non => exact .non
    | bl b => exact .bl b
    | int i => exact .int i
    | str x => exact .str x
    | tup z t r =>
      refine .tup z ?_ (okd_keepAll ih r h)
      rcases t with ⟨n1, t⟩ | t | ⟨f, n1, o, t⟩
      · exact .inl ⟨fun q => n1 (hb _ (sm t) q), ht _ _ t n1⟩
      · exact .inr (.inl t)
      · exact .inr (.inr ⟨f, fun q => n1 (hb _ (sm t) q), o, hz _ _ _ t n1⟩)
    | lst z n1 t r => exact .lst z (fun q => n1 (hb _ (sm t) q)) (hl _ _ t n1) (okd_keepAll ih r h)
    | scr => simp [okd] at h
    | dk => simp [okd] at h
    | dt => simp [okd] at h
    | town => simp [okd] at h
    | obj => simp [okd] at h
    | fn => simp [okd] at h
    | exc => simp [okd] at h
    | kt => simp [okd] at h
end
end Pm
namespace Pm
open PySem PySem.Spec PyProof.Rows L2


abbrev LT.nf (T : LT) (cl : List (Str × Addr)) (c : Addr) : NdefX.NF := ⟨T.name, T.qual, T.params, [], T.scope, cl, c⟩
abbrev LT.fd (T : LT) (cl : List (Str × Addr)) (c : Addr) (doc pm ctv : Value) : FuncData :=
  { name := T.name, qualname := T.qual, params := T.params, body := T.body, scope := T.scope, globals := mainGlobals, closure := cl, defaults := .none, kwdefaults := .none, doc := doc, pyModule := pm, annotations := none, code := .ref c, closureTuple := ctv, builtins := builtinsNs }
def LamOk (P : Program) (w : World) (K : PySem.W.Frag) (mg : Str → Option Value) (base : Heap) (k : Nat) (T : LT) (m : List D → Mf) : Prop :=
  ∀ (A : Around) (outer : List PySem.Env) (s : Shared) (H : Hp) (us : List Value) (vs cvs : List V) (f c : Addr) (cl : List (Str × Addr)) (ds as : List D) (ws : Wa) (B0 : Addr → Prop) (w0 w1 : W) (d : D),
    Room k A → Env0 P w K mg base A outer s H → H f = some (LamO f T cl c) → H c = some (LamX.CodeO c T.qual) → NdefX.CellsAt cl T.fr (cvs.map some) s.heap H → Vals vs us → vs.length = T.ps.length →
    WR K ws w0 H → BX ws B0 H → (∀ a, B0 a → H a ≠ none) → DRs K ws (fun a => ws.has a ∨ B0 a) H cvs ds → DRs K ws (fun a => ws.has a ∨ B0 a) H vs as → m ds as w0 = .ok d w1 →
    codeAny (model P w) A (.call (.ref f) ⟨us, []⟩) (CR (L2.CX P w) outer P w H s (fun v H' => ∃ ws', Post ws H ws' H' ∧ WR K ws' w1 H' ∧ DR K ws' (fun a => ws'.has a ∨ B0 a) H' v d) (fun _ _ _ => False)) s
section
variable {P : Program} {w : World} {K : PySem.W.Frag} {mg : Str → Option Value} {base : Heap}
theorem LamOk.mono {j k : Nat} {T : LT} {m : List D → Mf} (h : LamOk P w K mg base j T m) (l : j ≤ k) : LamOk P w K mg base k T m := fun A outer s H us vs cvs f c cl ds as ws B0 w0 w1 d hr => h A outer s H us vs cvs f c cl ds as ws B0 w0 w1 d (hr.mono l)
theorem lamO_at {H : Hp} {h : Heap} {f c : Addr} {T : LT} {cl : List (Str × Addr)} (hok : HOk P w H h) (e : H f = some (LamO f T cl c)) : ∃ (od : Option Addr) (sl : Array (Option Value)) (doc pm ctv : Value), h.get? f = some (⟨.type "function", od, .func (T.fd cl c doc pm ctv), sl⟩ : Obj) := by
  obtain ⟨z, _, _⟩ := hok f _ e
  exact z
end

structure Lams where
  tx : Nat → LT
  sm : Nat → List D → Mf
section
variable {K : PySem.W.Frag} {ws : Wa} {B : Addr → Prop} {H : Hp} {w : W} {S : Addr → Prop}
end
section
variable {X : Cx} {Wx : WX} {e : Expr} {es : List Expr} {pos p : Pos} {x : Str} {g : An} {L : Lams}
end
end Pm
namespace Pm
open PySem PySem.Spec PyProof.Rows L2


section
variable {X : Cx} {pins : List (Addr × Obj)} {σ : L2.St} {H : Hp} {s : Shared}
theorem inv_lam {T : LT} {cl : List (Str × Addr)} {c : Addr} {doc pm ctv : Value} {t' : Nat} (I : Inv X pins σ H s) :
    Inv X pins σ (upd H s.heap.objs.size (LamO s.heap.objs.size T cl c)) { s with heap := s.heap.push { cls := .type "function", data := .func (T.fd cl c doc pm ctv) }, toks := t' } := by
  have e : (s.heap.push ({ cls := .type "function", data := .func (T.fd cl c doc pm ctv) } : Obj)).get? s.heap.objs.size = some _ := Heap.get?_push_size _ rfl
  exact I.laid (fun b u z => Heap.get?_push_of_some _ z) (Nat.le_refl _) ⟨⟨_, _, doc, pm, ctv, e⟩, ⟨_, e⟩, fun h1 h2 ⟨od, sl, d, p, t, z⟩ st => ⟨od, sl, d, p, t, st _ z⟩⟩
theorem lam_make {TT : List (Addr × Str)} {q : Str} {c P : Addr} {params : Arguments} {body : Expr} {scope : Scope} {pos : Pos} {T : LT} {E Q : Value → Shared → Prop} (I : Inv X pins σ H s) (tb : LamX.TabB X.base X.mg c P) (hcode : X.env.code = .ref c) (hq : X.env.qual ++ "<lambda>" = q) (hm : (P, q) ∈ TT)
    (hu : ∀ p ∈ TT, p.1 = P → p.2 = q) (hT : LamX.Tabs TT H) (hdef : defaultsOf params X.env = ([], [])) (hfree : ∀ y ∈ scope.names, y.2 = .free → ∃ c, X.env.cells.lookup y.1 = some c)
    (h1 : T.name = "<lambda>") (h2 : T.qual = q) (h3 : T.params = params) (h4 : T.body = .expr body) (h5 : T.scope = scope)
    (h : ∀ (f c' : Addr) (H1 : Hp) (s' : Shared), Inv X pins σ H1 s' → (∀ b o, H b = some o → b ≠ P → H1 b = some o) → (∀ b, H1 b = none → H b = none) → LamX.Tabs TT H1 → H f = none → H1 f = some (LamO f T (cloFrom X.env.cells scope.names []) c') → H1 c' = some (LamX.CodeO c' T.qual) → Q (.ref f) s') :
    wpAny (model X.prog X.w) X.A (eval (.Lambda params body scope pos) X.env) Q E s := by
  obtain ⟨tn, tq, tp, tbd, ts, tps, tfr⟩ := T
  subst h1 h2 h3 h4 h5
  obtain ⟨ps, hP, ht, ha⟩ := hT _ hm
  refine PySem.W.kla_eval hdef ?_
  rw [hq]
  have bP : s.heap.BuiltinsAt X.mg P := tb.bm.keeps I.bk
  have hP' : s.heap.get? P = some { cls := .none, data := .fields ps } := I.hok P _ hP
  cases hc : codeAmong pos ps.toList with
  | none =>
    refine PySem.W.kla_makeFunction (mg := X.mg) (c := c) (P := P) (ps := ps) (closure_ok hfree) I.ok.glob (I.mod.glob.keeps I.bk) hcode (tb.code.keeps I.bk) hP' ht hc tb.gP bP fun c' ctv h' tk hx hge hlt hrec htb => ?_
    obtain ⟨c2, oc, vs, t, e2, hoc, hd, hv⟩ := hrec
    cases e2
    have nC : H c' = none := I.hok.fresh hge
    have nPC : P ≠ c' := ne_of_none hP nC
    have I1 := LamX.inv_table (t' := tk) (q := tq) (more := #[rawInt pos.line, rawInt pos.col, .ref c']) (h' := h') I hP (fun b o hb e => hx b o hb e) htb hge ⟨oc, vs, t, hoc, hd, hv⟩
    obtain ⟨H1, eH⟩ : ∃ H1, H1 = upd (upd H P (.tbl (ps ++ #[rawInt pos.line, rawInt pos.col, .ref c']))) c' (LamX.CodeO c' tq) := ⟨_, rfl⟩
    rw [← eH] at I1
    have k1 : ∀ b o, H b = some o → b ≠ P → H1 b = some o := fun b o e n => by rw [eH, upd_ne (ne_of_none e nC), upd_ne n]; exact e
    have nF : H1 h'.objs.size = none := I1.hok.fresh (Nat.le_refl _)
    have I2 := inv_lam (T := ⟨"<lambda>", tq, tp, .expr body, ts, tps, tfr⟩) (cl := cloFrom X.env.cells ts.names []) (c := c') (doc := .none) (pm := (X.mg "__name__").getD .none) (ctv := ctv) (t' := tk) I1
    have up : ∀ b o, H1 b = some o → upd H1 h'.objs.size (LamO h'.objs.size ⟨"<lambda>", tq, tp, .expr body, ts, tps, tfr⟩ (cloFrom X.env.cells ts.names []) c') b = some o := fun b o e => (upd_ne (ne_of_none e nF)).trans e
    have c1 : H1 c' = some (LamX.CodeO c' tq) := by rw [eH]; exact upd_same
    have dn : ∀ b, H1 b = none → H b = none := fun b e => by
      rw [eH] at e
      exact NdefX.upd_none (NdefX.upd_none e)
    have eL : (ps ++ #[rawInt pos.line, rawInt pos.col, .ref c']).toList = ps.toList ++ [rawInt pos.line, rawInt pos.col, .ref c'] := by simp
    have T1 : LamX.Tabs TT H1 := fun p hp => by
      by_cases hb : p.1 = P
      · rw [hu p hp hb, hb]
        refine ⟨_, by rw [eH, upd_ne nPC, upd_same], by rw [eL]; exact PySem.TriplesOk_snoc _ _ _ _ ht, fun p' cv hcv => ?_⟩
        rw [eL] at hcv
        rcases LamX.among_app _ ht hcv with z | z
        · obtain ⟨c0, e1, e2⟩ := ha p' cv z
          exact ⟨c0, e1, k1 _ _ e2 (fun z => by rw [z, hP] at e2; cases e2)⟩
        · exact ⟨c', z, c1⟩
      · obtain ⟨ps', a1, a2, a3⟩ := hT p hp
        refine ⟨ps', k1 _ _ a1 hb, a2, fun p' cv hcv => ?_⟩
        obtain ⟨c0, e1, e2⟩ := a3 p' cv hcv
        exact ⟨c0, e1, k1 _ _ e2 (fun z => by rw [z, hP] at e2; cases e2)⟩
    exact h h'.objs.size c' _ _ I2 (fun b o e n => up b o (k1 b o e n)) (fun b e => dn b (NdefX.upd_none e)) (T1.ext up) (dn _ nF) upd_same (up _ _ c1)
  | some cv =>
    obtain ⟨c', e, hco⟩ := ha pos cv hc
    subst e
    refine PySem.W.kla_makeFunctionHit (mg := X.mg) (c := c) (P := P) (ps := ps) (closure_ok hfree) I.ok.glob (I.mod.glob.keeps I.bk) hcode (tb.code.keeps I.bk) hP' ht hc bP fun ctv h' tk hx hsz => ?_
    have I1 : Inv X pins σ H { s with heap := h', toks := tk } := I.kept hx
    have nF : H h'.objs.size = none := I1.hok.fresh (Nat.le_refl _)
    have I2 := inv_lam (T := ⟨"<lambda>", tq, tp, .expr body, ts, tps, tfr⟩) (cl := cloFrom X.env.cells ts.names []) (c := c') (doc := .none) (pm := (X.mg "__name__").getD .none) (ctv := ctv) (t' := tk) I1
    have up : ∀ b o, H b = some o → upd H h'.objs.size (LamO h'.objs.size ⟨"<lambda>", tq, tp, .expr body, ts, tps, tfr⟩ (cloFrom X.env.cells ts.names []) c') b = some o := fun b o e => (upd_ne (ne_of_none e nF)).trans e
    exact h h'.objs.size c' _ _ I2 (fun b o e _ => up b o e) (fun b e => NdefX.upd_none e) (hT.ext up) nF upd_same (up _ _ hco)
end

section
variable {K : PySem.W.Frag} {ws : Wa} {B0 : Addr → Prop} {sl : Ls} {w : W} {σ : L2.St} {H : Hp}
end
def capD : List Nat → Ls → M (List D)
  | [], _ => M.pure []
  | j :: js, sl => (nVar j sl).bind fun d => (capD js sl).bind fun r => M.pure (d :: r)
theorem cap_vals {K : PySem.W.Frag} {ws : Wa} {B0 : Addr → Prop} {sl : Ls} {w w' : W} {σ : L2.St} {H : Hp} (e : Env K ws B0 sl w σ H) : ∀ (js : List Nat) (cds : List D), capD js sl w = .ok cds w' → w' = w ∧ ∃ cvs, js.map (NdefX.slotAt σ) = cvs.map some ∧ DRs K ws (Bad ws B0 sl σ) H cvs cds
  | [], cds, h => by cases h; exact ⟨rfl, [], rfl, .nil⟩
  | j :: js, cds, h => by
    obtain ⟨d, w1, h1, h2⟩ := bind_okE h
    obtain ⟨r, w2, h3, h4⟩ := bind_okE h2
    cases h4
    unfold nVar at h1
    cases q : sl[j]? with
    | none => rw [q] at h1; cases h1
    | some z =>
      rw [q] at h1
      cases z with
      | no => cases h1
      | ow d => cases h1
      | va d =>
        cases h1
        obtain ⟨e1, cvs, e2, e3⟩ := cap_vals e js r h3
        obtain ⟨v, q1, q2⟩ := e.va j _ q
        exact ⟨e1, v :: cvs, by rw [List.map_cons, e2, NdefX.slotAt_of q1]; rfl, .cons q2 e3⟩
theorem cap_noex {sl : Ls} {w w' : W} {c : Str} : ∀ (js : List Nat), capD js sl w ≠ .ex c w'
  | [], h => by cases h
  | j :: js, h => by
    unfold capD M.bind nVar at h
    cases q : sl[j]? with
    | none => rw [q] at h; cases h
    | some z =>
      rw [q] at h
      cases z with
      | no => cases h
      | ow d => cases h
      | va d =>
        simp only [M.pure] at h
        cases q2 : capD js sl w with
        | bad => rw [q2] at h; cases h
        | ex c w1 => exact cap_noex js q2
        | ok r w1 => rw [q2] at h; cases h
def lamN : Str := "<lambda>"
def tAL (X : Cx) (Wx : WX) (g : An) (T : LT) (cl : List (Str × Addr)) : TA := fun σ H Q => ∃ ws B0 sl w, Env X.K ws B0 sl w σ H ∧ runAt X.K X.mg Wx ws B0 sl σ H (g sl w) fun ws' w' ds H' =>
  ∀ vs f c H1, Le ws' (Own sl σ) H' ws' (Own sl σ) H1 → Env X.K ws' B0 sl w' σ H1 → DRs X.K ws' (Bad ws' B0 sl σ) H1 vs ds → H1 f = some (LamO f T cl c) → H1 c = some (LamX.CodeO c T.qual) → Q (vs ++ [.ref f]) H1
structure Mkr (X : Cx) (x : Str) (T : LT) (params : Arguments) (body : Expr) (scope : Scope) : Prop where
  tab : ∃ c P, codeTab X.K x = some (c, P) ∧ X.env.code = .ref c
  tbs : TBs X.K X.mg X.base
  nd : ((tabsK X.K).map (·.1)).Nodup
  mem : (x, lamN) ∈ makers
  qual : X.env.qual = x ++ ".<locals>."
  h1 : T.name = "<lambda>"
  h2 : T.qual = innerName (x, lamN)
  h3 : T.params = params
  h4 : T.body = .expr body
  h5 : T.scope = scope
  dflt : defaultsOf params X.env = ([], [])
  free : ∀ y ∈ scope.names, y.2 = .free → X.env.scope.names.lookup y.1 = some .cell ∨ X.env.scope.names.lookup y.1 = some .free
section
variable {X : Cx} {Wx : WX} {e : Expr} {es : List Expr} {pos p lpos : Pos} {x : Str} {g : An} {T : LT} {params : Arguments} {body : Expr} {scope : Scope}
theorem nodup_fst {α β : Type} : ∀ {l : List (α × β)} {a : α} {b b' : β}, (l.map (·.1)).Nodup → (a, b) ∈ l → (a, b') ∈ l → b = b'
  | [], _, _, _, _, h, _ => nomatch h
  | (a0, b0) :: r, a, b, b', nd, h, h' => by
    rw [List.map_cons, List.nodup_cons] at nd
    rcases List.mem_cons.mp h with e | h
    · cases e
      rcases List.mem_cons.mp h' with e | h'
      · cases e; rfl
      · exact absurd (List.mem_map.mpr ⟨_, h', rfl⟩) nd.1
    · rcases List.mem_cons.mp h' with e | h'
      · cases e
        exact absurd (List.mem_map.mpr ⟨_, h, rfl⟩) nd.1
      · exact nodup_fst nd.2 h h'
theorem pe_lam (mk : Mkr X x T params body scope) : PE X (.Lambda params body scope lpos) (fun σ H Q => tAL X Wx (fun _ => M.pure []) T (cloFrom X.env.cells scope.names []) σ H fun vs H1 => ∃ v, vs = [v] ∧ Q v H1) := by
  refine ⟨fun pins s σ H Q I h => ?_⟩
  obtain ⟨ws, B0, sl, w, en, h⟩ := h
  obtain ⟨c, P, h1, h2⟩ := mk.tab
  have hmem : (P, innerName (x, lamN)) ∈ tabsK X.K := List.mem_filterMap.mpr ⟨(x, lamN), mk.mem, by rw [h1]; rfl⟩
  refine lam_make (T := T) I (mk.tbs _ mk.mem (c, P) h1) h2 (q := innerName (x, lamN)) (by rw [mk.qual]; rfl) hmem (fun p hp e => ?_) en.wr.2.2 mk.dflt (fun y hy z => (mk.free y hy z).elim (fun z => I.ok.has _ (.inl z)) fun z => I.ok.has _ (.inr z)) mk.h1 mk.h2 mk.h3 mk.h4 mk.h5 fun f c' H1 s' I1 k1 k2 t1 f0 f1 c1 => ?_
  · obtain ⟨a, b⟩ := p
    cases e
    exact nodup_fst mk.nd hp hmem
  · have hasP : ws.has P := .inr (.inl (by rw [en.wr.2.1]; exact List.mem_map.mpr ⟨_, hmem, rfl⟩))
    have po : Post ws H ws H1 := ⟨ws.le_refl, fun _ z => .inl z, fun _ z => z.elim, fun a o e n _ => k1 a o e (fun z => n (by rw [z]; exact hasP)), k2⟩
    have wr : WR X.K ws w H1 := by
      refine ⟨?_, ⟨en.wr.2.1, t1⟩, en.wr.3.keep_tbl (en.wr.2.2 _ hmem) k1⟩
      have hw := en.wr.1
      unfold TW at hw ⊢
      split
      · trivial
      · rename_i l t e1 e2
        rw [e1, e2] at hw
        have hw : H t = some (.lst (l.map V.int)) := hw
        refine k1 _ _ hw fun z => ?_
        obtain ⟨ps, y, _⟩ := en.wr.2.2 _ hmem
        have y : H P = some (.tbl ps) := y
        rw [z, y] at hw; cases hw
      · rename_i h1 h2
        split at hw
        · rename_i e1 e2; exact h1 e1 e2
        · rename_i e1 e2; exact h2 _ _ e1 e2
        · exact hw
    obtain ⟨l1, e1⟩ := en.after po wr
    obtain ⟨v, ev, q⟩ := runAt.here en h [] f c' H1 l1 e1 .nil f1 c1
    cases ev
    exact ⟨.ref f, H1, I1, rfl, q⟩
end
end Pm
namespace Pm
open PySem PySem.Spec PyProof.Rows L2


section
variable {P : Program} {w : World} {K : PySem.W.Frag} {mg : Str → Option Value} {base : Heap}
theorem body_go {N : List Str} {n : Nat} {m : Mf} {b : Sk} {vs : List V} {H : Hp} {Q : VK} {E : XK} (hm : ∀ ds : List D, ds.length = n → runB b N.length ds = m ds) (h : spF K mg n m vs H Q E) :
    tS K mg (fun cls d _ H => E cls d H) b { nx := fun _ H' => Q .non H', rt := Q } (L2.start N vs) H := by
  obtain ⟨hl, ws, B0, w1, ds, hw, hbx, hd, r, h⟩ := h
  obtain ⟨nO, e⟩ := env_start (N := N) hw hbx hd r
  rw [← hm ds (by rw [← r.length]; exact hl)] at h
  have po : ∀ {σ' : L2.St} {ws' : Wa} {sl' : Ls} {H' : Hp}, Le ws (Own (slStart N.length ds) (L2.start N vs)) H ws' (Own sl' σ') H' → Post ws H ws' H' := fun l =>
    ⟨l.wle, l.new, fun _ z => z.elim, fun a o h1 h2 _ => l.keep a o h1 h2 (nO a), l.ex⟩
  refine ⟨ws, B0, _, w1, fun _ => M.pure .non, fun _ => M.bad, fun _ => M.bad, e, ⟨fun z => ?_, ?_, ?_, ?_, ?_, ?_⟩⟩
  · have z : runB b N.length ds w1 = .bad := z
    rw [z] at h
    exact h
  · intro σ' ws' sl' w' H' l e' q
    have q : runB b N.length ds w1 = .ok .non w' := q.symm
    rw [q] at h
    exact h .non ws' H' (po l) e'.wr .non
  · intro σ' ws' sl' w' H' l e' q
    have q : runB b N.length ds w1 = .bad := q.symm
    rw [q] at h
    exact h.elim
  · intro σ' ws' sl' w' H' l e' q
    have q : runB b N.length ds w1 = .bad := q.symm
    rw [q] at h
    exact h.elim
  · intro d w' q σ' ws' sl' H' v l e' hv
    have q : runB b N.length ds w1 = .ok d w' := q
    rw [q] at h
    exact h v ws' H' (po l) e'.wr hv
  · intro c w' q σ' ws' sl' H' C hC l e'
    have q : runB b N.length ds w1 = .ex c w' := q
    rw [q] at h
    exact h ws' H' C hC (po l) e'.wr
def DfM (K : PySem.W.Frag) (mg : Str → Option Value) (x : Str) (st : Stmt) (ps : List Str) : Prop := ∃ (f c T : Addr) (oc : Value) (od : Option Addr) (kV doc pm : Value) (an : Option Addr) (ct : Value) (osl : Array (Option Value)),
  K.lookup f = some ⟨oc, od, .func (PySem.W.fnOf x x (defArgs st) (defBody st) (defScope st) .none kV doc pm an (.ref c) ct), osl⟩ ∧ PySem.W.codeIn K (.ref c) x = true ∧ PySem.W.keepIn K (.ref f) = true ∧ mg x = some (.ref f) ∧ codeTab K x = some (c, T) ∧
  ∀ us : List Value, us.length = ps.length → bindArgs (PySem.W.fnOf x x (defArgs st) (defBody st) (defScope st) .none kV doc pm an (.ref c) ct) ⟨us, []⟩ = pure (ps.zip us)
theorem dfm_mk {x : Str} {st : Stmt} {f c T : Addr} {h : Heap} {ps : List Str} {oc oc2 : Value} {od od2 an : Option Addr} {osl osl2 : Array (Option Value)} {kV doc pm ct : Value} {vs : Array Value} (X : K.In h) (G : h.Ns mainGlobals mg) (a : PySem.W.nsIn K mainGlobals x = some (some (.ref f)))
    (l : K.lookup f = some ⟨oc, od, .func (PySem.W.fnOf x x (defArgs st) (defBody st) (defScope st) .none kV doc pm an (.ref c) ct), osl⟩) (hc : PySem.W.codeIn K (.ref c) x = true) (k : PySem.W.keepIn K (.ref f) = true)
    (lc : K.lookup c = some ⟨oc2, od2, .fields vs, osl2⟩) (hT : (vs[11]? : Option Value) = some (.ref T))
    (hb : ∀ (kV doc pm : Value) (an : Option Addr) (cdv ct : Value) (us : List Value), us.length = ps.length → bindArgs (PySem.W.fnOf x x (defArgs st) (defBody st) (defScope st) .none kV doc pm an cdv ct) ⟨us, []⟩ = pure (ps.zip us)) : DfM K mg x st ps :=
  ⟨f, c, T, oc, od, kV, doc, pm, an, ct, osl, l, hc, k, PySem.W.mg_of X G a, by unfold codeTab; rw [a]; simp only []; rw [l]; simp only []; rw [lc]; simp only []; rw [hT], hb _ _ _ _ _ _⟩
abbrev BdyM (P : Program) (w : World) (K : PySem.W.Frag) (mg : Str → Option Value) (base : Heap) (N : List Str) (np : Nat) (x : Str) (st : Stmt) (k : Nat) (m : Mf) : Prop := ∀ (f c T : Addr) (A : Around) (outer : List PySem.Env) (s : Shared) (H : Hp) (E : XK), codeTab K x = some (c, T) → Room k (A.deeper (envOfC x (defScope st) s.heap.objs.size f (.ref c))) →
      ∃ b, PSsm (cxOf (L2.CX P w) P w K mg base N x (defScope st) f (.ref c) A outer s H E) (fun cls d _ H => E cls d H) (defBody st) b ∧ ∀ ds : List D, ds.length = np → runB b N.length ds = m ds
theorem cal_ofM {x : Str} {st : Stmt} {N ps : List Str} {k np : Nat} {m : Mf} (F : DfM K mg x st ps) (Sc : FnScope N ps (defScope st)) (hp : ps.length = np) (hbody : BdyM P w K mg base N np x st k m) : Cal P w K mg base (k + 1) x ps m := by
  obtain ⟨f, c, T, oc, od, kV, doc, pm, an, ct, osl, l, hc, hk, hg, hT, hb⟩ := F
  subst hp
  refine ⟨f, _, hg, hk, .all hb, fn_of l hc Sc (fun vs H Q E h => h.1) fun A outer s H vs Q E hr h => ?_⟩
  obtain ⟨b, h1, h2⟩ := hbody f c T A outer s H E hT hr
  exact ⟨_, h1, body_go h2 h⟩
end
theorem mkr_by {X : Cx} {x : Str} {T : LT} {params : Arguments} {body : Expr} {scope : Scope} {c P : Addr} (hct : codeTab X.K x = some (c, P)) (tbs : TBs X.K X.mg X.base) (nd : ((tabsK X.K).map (·.1)).Nodup) (hcode : X.env.code = .ref c) (qual : X.env.qual = x ++ ".<locals>.") (mem : decide ((x, lamN) ∈ makers) = true)
    (h1 : T.name = "<lambda>") (h2 : T.qual = innerName (x, lamN)) (h3 : T.params = params) (h4 : T.body = .expr body) (h5 : T.scope = scope) (dflt : defaultsOf params X.env = ([], [])) (free : NdefX.ndefB X.env.scope scope [] = true) : Mkr X x T params body scope :=
  ⟨⟨c, P, hct, hcode⟩, tbs, nd, of_decide_eq_true mem, qual, h1, h2, h3, h4, h5, dflt, NdefX.ndef_free free⟩
theorem caps_by {X : Cx} {T : LT} {js : List Nat} {cl : List (Str × Addr)} (hcl : cl = cloFrom X.env.cells T.scope.names []) (h : NdefX.ndefB X.env.scope T.scope T.fr = true) (hjs : js.map (fun j => X.N[j]?) = T.fr.map some) : X.Ok → NdefX.Caps X cl T.fr js := fun ok => by
  rw [hcl]
  exact NdefX.Caps.made ok (NdefX.ndef_free h) (NdefX.ndef_fr h) hjs


def tabCs (K : PySem.W.Frag) : List (Addr × Addr) := makers.filterMap fun x => codeTab K x.1
def tabChk (K : PySem.W.Frag) (ts : List Addr) : Bool := (tabCs K).all fun p => PySem.W.codeHdIn K p.1 p.2 && (K.lookup p.2).isNone && ts.contains p.2
theorem lawAt {l : PySem.W.OpenLaw} {w : World} {K : PySem.W.Frag} {k : Nat} {x : Str} {mg : Str → Option Value} {fa : Addr} {h : Heap} {ts : List Addr} (hk : tabChk K ts = true) (hts : ∀ P ∈ ts, h.get? P = some (PySem.W.tabObj #[])) (KX : K.In h)
    (F : ∃ fd : FuncData, (∀ (s : Shared) (u : Value), BindsTo s fd ⟨[u], []⟩ [(x, u)]) ∧ ∀ base : Heap, K.In base → base.Ns mainGlobals mg → TBs K mg base → FnOk l.prog w K mg base (L2.CX l.prog w) k fa fd [x] (spLaw K)) : LamX.LawAtS l w K (L2.CX l.prog w) k 63 x mg fa h := by
  obtain ⟨fd, hb, F⟩ := F
  have chk : ∀ p ∈ tabCs K, PySem.W.codeHdIn K p.1 p.2 = true ∧ K.lookup p.2 = none ∧ p.2 ∈ ts := fun p hp => by
    have z := List.all_eq_true.mp hk p hp
    simp only [Bool.and_eq_true, Option.isNone_iff_eq_none, List.contains_iff_mem] at z
    exact ⟨z.1.1, z.1.2, z.2⟩
  refine ⟨fd, tabCs K, spLaw K, fun p hp => hts _ (chk p hp).2.2, fun p hp => (chk p hp).2.1, fun p hp => PySem.W.codeHd_of_K KX (chk p hp).1, hb, fun H a ns hl _ hT hS => ⟨a, ns, rfl, hS, hl, fun p hp => ?_, fun _ => rfl⟩, fun base hB hG hT => F base hB hG fun x hx p hp => hT p (List.mem_filterMap.mpr ⟨x, hx, hp⟩)⟩
  obtain ⟨y, hy, e⟩ := List.mem_filterMap.mp hp
  cases q : codeTab K y.1 with
  | none => rw [q] at e; cases e
  | some r =>
    rw [q] at e
    cases e
    exact LamX.TabS.nil (hT r (List.mem_filterMap.mpr ⟨y, hy, q⟩))
end Pm
namespace Pm
open PySem PySem.Spec PyProof.Rows L2


section
variable {M : Model} {A : Around} {E : Value → Shared → Prop} {s₀ s : Shared} {m cm : Str → Option Value} {env : PySem.Env} {cs : List (Str × Addr)}
end
structure MScope (N ps fr : List Str) (sc : Scope) : Prop where
  kind : sc.kind = .function
  co : sc.isCoroutine = false
  gen : sc.isGenerator = false
  nd : N.Nodup
  pre : N.take (ps.length + fr.length) = ps ++ fr
  par : ∀ x ∈ ps, sc.names.lookup x = some .local ∨ sc.names.lookup x = some .cell
  free : ∀ y ∈ sc.names, y.2 = .free → y.1 ∈ fr
  frk : ∀ x ∈ fr, sc.names.lookup x = some .free
  uni : ∀ y ∈ sc.names, y.2 = .cell → sc.names.lookup y.1 = some .cell
section
variable {P : Program} {w : World} {K : PySem.W.Frag} {mg : Str → Option Value} {base : Heap} {N : List Str} {T : LT} {f c : Addr} {A : Around} {outer : List PySem.Env} {s s1 : Shared} {H : Hp} {us : List Value} {vs : List V} {ws : List (Option V)} {cl : List (Str × Addr)}
end
section
variable {P : Program} {w : World} {K : PySem.W.Frag} {mg : Str → Option Value} {base : Heap}
end
end Pm
namespace Pm
open PySem PySem.Spec PyProof.Rows L2


abbrev FunK (K : PySem.W.Frag) (x : Str) (st : Stmt) (kws : List (Str × V)) (f : Addr) (fd : FuncData) : Prop := FunD K x x (defArgs st) (defBody st) (defScope st) [] kws f fd
def CalK (P : Program) (w : World) (K : PySem.W.Frag) (mg : Str → Option Value) (base : Heap) (k : Nat) (x : Str) (st : Stmt) (ps : List Str) (kws : List (Str × V)) (m : Mf) : Prop := ∃ f fd, mg x = some (.ref f) ∧ FunK K x st kws f fd ∧ FnOk P w K mg base (L2.CX P w) k f fd ps (spF K mg ps.length m)
section
variable {P : Program} {w : World} {K : PySem.W.Frag} {mg : Str → Option Value} {base : Heap}
theorem CalK.mono {j k : Nat} {x : Str} {st : Stmt} {ps : List Str} {kws : List (Str × V)} {m : Mf} (h : CalK P w K mg base j x st ps kws m) (l : j ≤ k) : CalK P w K mg base k x st ps kws m := by
  obtain ⟨f, fd, h1, h2, h3⟩ := h
  exact ⟨f, fd, h1, h2, h3.mono l⟩
end

section
variable {X : Cx} {Wx : WX} {e : Expr} {es : List Expr} {pos p : Pos} {x : Str} {g gk : An} {kas : List Keyword}
end
end Pm
namespace Pm
open PySem PySem.Spec PyProof.Rows L2


section
variable {X : Cx} {pins : List (Addr × Obj)} {σ : L2.St} {H : Hp} {s : Shared}
end
structure MkrD (X : Cx) (x name : Str) (T : LT) (params : Arguments) (body : List Stmt) (scope : Scope) : Prop where
  tab : ∃ c P, codeTab X.K x = some (c, P) ∧ X.env.code = .ref c
  tbs : TBs X.K X.mg X.base
  nd : ((tabsK X.K).map (·.1)).Nodup
  mem : (x, name) ∈ makers
  qual : X.env.qual ++ name = innerName (x, name)
  h1 : T.name = name
  h2 : T.qual = innerName (x, name)
  h3 : T.params = params
  h4 : T.body = .stmts body
  h5 : T.scope = scope
  d0 : params.defaults = []
  k0 : params.kw_defaults = []
  an : annTrees params none X.env = []
  free : ∀ y ∈ scope.names, y.2 = .free → X.env.scope.names.lookup y.1 = some .cell ∨ X.env.scope.names.lookup y.1 = some .free
section
variable {X : Cx} {Wx : WX} {e : Expr} {es : List Expr} {pos p npos dpos : Pos} {x name : Str} {g : An} {T : LT} {params : Arguments} {body : List Stmt} {scope : Scope} {i : Nat} {cl : List (Str × Addr)}
end

section
variable {P : Program} {w : World} {K : PySem.W.Frag} {mg : Str → Option Value} {base : Heap}
end

end Pm
namespace Pm
open PySem PySem.Spec PyProof.Rows L2 RZ

def itr : Bool → Heap → Addr → Addr → Nat → Prop
  | true, h, a, l, i => h.IsListIter a l i
  | false, h, a, l, i => h.IsTupleIter a l i
def isq : Bool → Heap → Addr → Array Value → Prop
  | true, h, a, xs => h.IsList a xs
  | false, h, a, xs => h.IsTuple a xs
theorem itr.extBut {t : Bool} {h h' : Heap} {a b l : Addr} {i : Nat} (x : itr t h a l i) (e : Heap.ExtBut b h h') (n : a ≠ b) : itr t h' a l i := by
  cases t
  · exact Heap.IsTupleIter.extBut x e n
  · exact Heap.IsListIter.extBut x e n
theorem itr.at {t : Bool} {h h' : Heap} {a l : Addr} {i : Nat} (x : itr t h a l i) (e : ∀ o, h.get? a = some o → h'.get? a = some o) : itr t h' a l i := by
  cases t
  · exact Heap.IsTupleIter.at x e
  · exact Heap.IsListIter.at x e
theorem itr.obj {t : Bool} {h : Heap} {a l : Addr} {i : Nat} (x : itr t h a l i) : ∃ o, h.get? a = some o ∧ ∀ v, o.data ≠ .cell v := by
  cases t <;> (obtain ⟨o, e, _, d⟩ := x; exact ⟨o, e, fun v q => by rw [d] at q; cases q⟩)
theorem isq.extBut {t : Bool} {h h' : Heap} {a b : Addr} {xs : Array Value} (x : isq t h a xs) (e : Heap.ExtBut b h h') (n : a ≠ b) : isq t h' a xs := by
  cases t
  · exact Heap.IsTuple.extBut x e n
  · exact Heap.IsList.extBut x e n
theorem isq.push {t : Bool} {h : Heap} {a : Addr} {xs : Array Value} (x : isq t h a xs) (o : Obj) : isq t (h.push o) a xs := by
  cases t
  · exact Heap.IsTuple.push x o
  · exact Heap.IsList.push x o
theorem isq.lt {t : Bool} {h : Heap} {a : Addr} {xs : Array Value} (x : isq t h a xs) : a < h.objs.size := by
  cases t <;> (obtain ⟨o, e, _⟩ := x; exact Heap.lt_size e)
section
variable {prog : Program} {w : World} {A : Around} {E : Value → Shared → Prop} {s : Shared}
variable {N a b : Nat} {k : Nat} {t1 t2 : Bool} {xs ys : Array Value} {x y p q : Value}
end

section
variable {prog : Program} {w : World} {A : Around} {E : Value → Shared → Prop} {s : Shared}
end
section
variable {X : Cx} {pins : List (Addr × Obj)} {σ : L2.St} {H : Hp} {s : Shared} {a : Addr} {xs ys : List V} {t : Bool}
end
section
variable {K : PySem.W.Frag} {ws : Wa} {B : Addr → Prop} {H : Hp}
end
end Pm
namespace Pm
open PySem PySem.Spec PyProof.Rows L2

end Pm
namespace Pm
open PySem PySem.Spec PyProof.Rows L2


mutual
def okt : D → Bool
  | .non => true
  | .bl _ => true
  | .int _ => true
  | .str _ => true
  | .tup l => okts l
  | _ => false
def okts : List D → Bool
  | [] => true
  | d :: r => okt d && okts r
end
section
variable {K : PySem.W.Frag} {ws : Wa} {B0 B : Addr → Prop} {sl : Ls} {w : W} {σ : L2.St} {H : Hp} {v : V} {d : D}
mutual
theorem DR.tr (kf : kfl K = false) : ∀ {v : V} {d : D}, DR K ws B H v d → okt d = true → TR K H v d
  | _, _, .non, _ => .non
  | _, _, .bl b, _ => .bl b
  | _, _, .int i, _ => .int i
  | _, _, .str x, _ => .str x
  | _, _, .tup z h r, q => .tup z (by
      rcases h with h | h | ⟨f, _⟩
      · exact .inl h.2
      · exact .inr h
      · rw [kf] at f; cases f) (DRs.tr kf r (by simpa [okt] using q))
  | _, _, .lst _ _ _ _, q => by simp [okt] at q
  | _, _, .scr _ _, q => by simp [okt] at q
  | _, _, .dk _ _ _ _, q => by simp [okt] at q
  | _, _, .dt _ _ _ _, q => by simp [okt] at q
  | _, _, .town _, q => by simp [okt] at q
  | _, _, .obj _, q => by simp [okt] at q
  | _, _, .fn _ _ _ _ _ _, q => by simp [okt] at q
  | _, _, .exc _ _, q => by simp [okt] at q
  | _, _, .kt _ _ _ _ _, q => by simp [okt] at q
theorem DRs.tr (kf : kfl K = false) : ∀ {vs : List V} {ds : List D}, DRs K ws B H vs ds → okts ds = true → TRs K H vs ds
  | _, _, .nil, _ => .nil
  | _, _, .cons h r, q => by
    simp only [okts, Bool.and_eq_true] at q
    exact .cons (DR.tr kf h q.1) (DRs.tr kf r q.2)
end
mutual
theorem TR.dr (hB : ∀ a xs, H a = some (.tup xs) → ¬ B a) : ∀ {v : V} {d : D}, TR K H v d → DR K ws B H v d
  | _, _, .non => .non
  | _, _, .bl b => .bl b
  | _, _, .int i => .int i
  | _, _, .str x => .str x
  | _, _, .tup z h r => .tup z (h.imp (fun y => ⟨hB _ _ y, y⟩) .inl) (TRs.dr hB r)
theorem TRs.dr (hB : ∀ a xs, H a = some (.tup xs) → ¬ B a) : ∀ {vs : List V} {ds : List D}, TRs K H vs ds → DRs K ws B H vs ds
  | _, _, .nil => .nil
  | _, _, .cons h r => .cons (TR.dr hB h) (TRs.dr hB r)
end
mutual
theorem TR.okt : ∀ {v : V} {d : D}, TR K H v d → Pm.okt d = true
  | _, _, .non => rfl
  | _, _, .bl b => rfl
  | _, _, .int i => rfl
  | _, _, .str x => rfl
  | _, _, .tup z h r => by simp only [Pm.okt]; exact TRs.okts r
theorem TRs.okts : ∀ {vs : List V} {ds : List D}, TRs K H vs ds → Pm.okts ds = true
  | _, _, .nil => rfl
  | _, _, .cons h r => by simp only [Pm.okts, Bool.and_eq_true]; exact ⟨TR.okt h, TRs.okts r⟩
end
theorem TRs.length : ∀ {vs : List V} {ds : List D}, TRs K H vs ds → vs.length = ds.length
  | _, _, .nil => rfl
  | _, _, .cons _ r => congrArg (· + 1) (TRs.length r)
theorem TRs.set (h : TR K H v d) : ∀ {vs : List V} {ds : List D} (i : Nat), TRs K H vs ds → TRs K H (vs.set i v) (ds.set i d)
  | _, _, _, .nil => .nil
  | _, _, 0, .cons _ t => .cons h t
  | _, _, i + 1, .cons q t => .cons q (TRs.set h i t)
theorem TRs.append : ∀ {vs us : List V} {ds es : List D}, TRs K H vs ds → TRs K H us es → TRs K H (vs ++ us) (ds ++ es)
  | _, _, _, _, .nil, s => s
  | _, _, _, _, .cons h r, s => .cons h (TRs.append r s)
theorem Env.ntup (e : Env K ws B0 sl w σ H) {a : Addr} {xs : List V} (h : H a = some (.tup xs)) : ¬ Bad ws B0 sl σ a := fun z => by
  have no : ∀ vs, H a ≠ some (.lst vs) := fun vs q => by
    rw [q] at h; cases h
  rcases z with (z | z | z) | z
  · have hw := e.wr.1
    unfold TW at hw
    rw [z] at hw
    cases q : w.town with
    | none => rw [q] at hw; exact hw.elim
    | some l => rw [q] at hw; exact no _ hw
  · rw [e.wr.2.1] at z
    obtain ⟨p, hp, rfl⟩ := List.mem_map.mp z
    obtain ⟨ps, h1, _⟩ := e.wr.2.2 p hp
    rw [h1] at h; cases h
  · rcases e.wr.3.lv_lst z with ⟨vs, q⟩ | ⟨_, _, _, q⟩ | ⟨_, q⟩
    · exact no _ q
    · rw [q] at h; cases h
    · rw [q] at h; cases h
  · exact (e.bxs a z).2.nt h
theorem Env.dr (e : Env K ws B0 sl w σ H) (h : TR K H v d) : DR K ws (Bad ws B0 sl σ) H v d := h.dr fun _ _ => e.ntup
theorem TW.same {ws ws' : Wa} {w w' : W} (h1 : ws'.town = ws.town) (h2 : w'.town = w.town) (h : TW ws w H) : TW ws' w' H := by
  unfold TW at *; rw [h1, h2]; exact h
end

section
variable {X : Cx} {Wx : WX} {a b c e : Expr} {es : List Expr} {pos p : Pos} {x : Str}
end

section
variable {K : PySem.W.Frag} {mg : Str → Option Value} {Wx : WX} {ws : Wa} {B0 : Addr → Prop} {sl : Ls} {w : W} {σ : L2.St} {H : Hp}
end
section
variable {X : Cx} {Wx : WX} {a b c e : Expr} {es : List Expr} {pos p : Pos} {x : Str}
end

section
variable {K : PySem.W.Frag} {mg : Str → Option Value} {Wx : WX} {B0 : Addr → Prop} {sl : Ls} {σ : L2.St} {H : Hp}
end

def cutW (n : Nat) (w : W) : W := ⟨w.town, w.objs.take n⟩
noncomputable def cutG (w w' : W) (r : Rs D) : Rs D := open Classical in if w'.objs.take w.objs.length = w.objs then r else .bad
noncomputable def scopeF (m : Mf) : Mf := fun ds w => match m ds w with
  | .ok d w' => if okd 40 d = true then cutG w w' (.ok d (cutW w.objs.length w')) else .bad
  | .ex c w' => cutG w w' (.ex c (cutW w.objs.length w'))
  | .bad => .bad
section
variable {K : PySem.W.Frag} {ws ws' : Wa} {B0 : Addr → Prop} {w w' : W} {H H' : Hp}
def cutA (n : Nat) (ws : Wa) : Wa := ⟨ws.town, ws.tabs, ws.ob.take n⟩
theorem has_cut {n : Nat} {a : Addr} (h : (cutA n ws).has a) : ws.has a := by
  rcases h with h | h | h
  · exact .inl h
  · exact .inr (.inl h)
  · exact .inr (.inr (List.mem_of_mem_take h))
theorem get_take {α : Type} {l : List α} {n k : Nat} {x : α} (h : (l.take n)[k]? = some x) : k < n ∧ l[k]? = some x := by
  rw [List.getElem?_take] at h
  split at h
  · exact ⟨by assumption, h⟩
  · cases h
theorem Post.cut {n : Nat} (hn : ws.ob.length ≤ n) (p : Post ws H ws' H') : Post ws H (cutA n ws') H' := by
  refine ⟨⟨p.wle.tw, fun k a b z => ?_⟩, fun a z => p.new a (has_cut z), p.own, p.keep, p.ex⟩
  obtain ⟨b', y⟩ := p.wle.ob k a b z
  have := (List.getElem?_eq_some_iff.mp z).1
  exact ⟨b', by show (ws'.ob.take n)[k]? = _; rw [List.getElem?_take, if_pos (by omega)]; exact y⟩
theorem TR.no_obj {k : Nat} {v : V} {H : Hp} (h : TR K H v (.obj k)) : False := by cases h
theorem FPs.cut {ob ob' : List (Addr × Bool)} {H1 H2 : Hp} {n : Nat} (hn : ob.length ≤ n) : ∀ {fv gv : List (Str × V)} {fs : List (Str × D)}, Paired (FP K ob H1) fv fs → Paired (FP K ob' H2) gv fs → Paired (FP K (ob'.take n) H2) gv fs
  | _, _, _, .nil, .nil => .nil
  | _, _, _, .cons h r, .cons h' r' => by
    refine .cons ⟨h'.1, ?_⟩ (FPs.cut hn r r')
    rcases h'.2 with q | ⟨k, b, c, e, q, y⟩
    · exact .inl q
    · rcases h.2 with z | ⟨k2, b2, c2, e2, q2, y2⟩
      · rw [e] at z; exact z.no_obj.elim
      · rw [e] at e2
        cases e2
        have := (List.getElem?_eq_some_iff.mp q2).1
        exact .inr ⟨k, b, c, e, by rw [List.getElem?_take, if_pos (by omega)]; exact q, y⟩
theorem WR.cut {H0 : Hp} {ws0 : Wa} {w0 : W} {n : Nat} (h0 : WR K ws0 w0 H0) (hn : w0.objs.length = n) (he : w.objs.take n = w0.objs) (h : WR K ws w H) : WR K (cutA n ws) (cutW n w) H := by
  obtain ⟨h1, h2, h3⟩ := h
  refine ⟨h1.same rfl rfl, h2, ?_⟩
  refine ⟨by simp [cutA, cutW, h3.len], fun k o z => ?_, fun k z => ?_, fun j k a z1 z2 => h3.nd j k a (get_take z1).2 (get_take z2).2, fun a z => h3.nt a (List.mem_of_mem_take z)⟩
  · have z0 : w0.objs[k]? = some (some o) := by rw [← he]; exact z
    obtain ⟨z1, z2⟩ := get_take z
    obtain ⟨a, y1, y2⟩ := h3.live k o z2
    obtain ⟨a0, x1, x2⟩ := h0.3.live k o z0
    refine ⟨a, by show (ws.ob.take n)[k]? = _; rw [List.getElem?_take, if_pos z1]; exact y1, ?_⟩
    cases o with
    | lst ds => exact y2
    | ins c fs =>
      obtain ⟨dx, fv, q1, q2, q3⟩ := y2
      obtain ⟨dx0, fv0, p1, p2, p3⟩ := x2
      exact ⟨dx, fv, q1, q2, FPs.cut (by rw [h0.3.len, hn]; exact Nat.le_refl _) p3 q3⟩
    | dct fs =>
      obtain ⟨fv, q1, q2, q3⟩ := y2
      obtain ⟨fv0, p1, p2, p3⟩ := x2
      exact ⟨fv, q1, q2, FPs.cut (by rw [h0.3.len, hn]; exact Nat.le_refl _) p3 q3⟩
  · obtain ⟨z1, z2⟩ := get_take z
    obtain ⟨a, y1⟩ := h3.dead k z2
    exact ⟨a, by show (ws.ob.take n)[k]? = _; rw [List.getElem?_take, if_pos z1]; exact y1⟩
theorem spF_scope {mg : Str → Option Value} {n : Nat} {m : Mf} {vs : List V} {Q : VK} {E : XK} (h : spF K mg n (scopeF m) vs H Q E) : spF K mg n m vs H Q E := by
  obtain ⟨hl, ws, B0, w, ds, hw, hbx, hd, r, h⟩ := h
  refine ⟨hl, ws, B0, w, ds, hw, hbx, hd, r, ?_⟩
  have hn : ws.ob.length = w.objs.length := hw.3.len
  unfold scopeF at h
  cases q : m ds w with
  | bad => rw [q] at h; exact h
  | ex c w' =>
    rw [q] at h
    simp only at h
    by_cases he : w'.objs.take w.objs.length = w.objs
    · have e : ∀ r, cutG w w' r = r := fun r => if_pos he
      rw [e] at h
      exact fun ws' H' C hC po hw' => h _ H' C hC (po.cut (n := w.objs.length) (by omega)) (WR.cut hw rfl he hw')
    · have e : ∀ r, cutG w w' r = .bad := fun r => if_neg he
      rw [e] at h
      exact h.elim
  | ok d w' =>
    rw [q] at h
    simp only at h
    by_cases z : okd 40 d = true
    · rw [if_pos z] at h
      by_cases he : w'.objs.take w.objs.length = w.objs
      · have e : ∀ r, cutG w w' r = r := fun r => if_pos he
        rw [e] at h
        intro v ws' H' po hw' hv
        exact h v _ H' (po.cut (n := w.objs.length) (by omega)) (WR.cut hw rfl he hw') (okd_keep (fun _ _ y _ => y) (fun _ _ _ y _ => y) (fun _ _ y _ => y) (fun a _ y => y.imp has_cut id) 40 v d z hv)
      · have e : ∀ r, cutG w w' r = .bad := fun r => if_neg he
        rw [e] at h
        exact h.elim
    · rw [if_neg z] at h
      exact h.elim
theorem Cal.scope {P : Program} {w : World} {mg : Str → Option Value} {base : Heap} {k : Nat} {x : Str} {ps : List Str} {m : Mf} (h : Cal P w K mg base k x ps m) : Cal P w K mg base k x ps (scopeF m) := by
  obtain ⟨f, fd, h1, h2, h3, h4⟩ := h
  exact ⟨f, fd, h1, h2, h3, ⟨fun vs H Q E h => h.1, fun A outer s H args us vs Q E hr he hb hv hs => h4.run A outer s H args us vs Q E hr he hb hv (spF_scope hs)⟩⟩
end
end Pm
namespace Pm
open PySem PySem.Spec PyProof.Rows L2



end Pm
namespace Pm
open PySem PySem.Spec PyProof.Rows L2


theorem DRs.erase {K : PySem.W.Frag} {ws : Wa} {B : Addr → Prop} {H : Hp} : ∀ {vs : List V} {ds : List D} (n : Nat), DRs K ws B H vs ds → DRs K ws B H (vs.eraseIdx n) (ds.eraseIdx n)
  | _, _, n, .nil => by cases n <;> exact .nil
  | _, _, 0, .cons _ r => r
  | _, _, n + 1, .cons h r => .cons h (DRs.erase n r)
section
variable {X : Cx} {Wx : WX} {e : Expr} {pos np apos cpos np2 apos2 cpos2 : Pos} {x y : Str} {f : Dn}
end

section
variable {X : Cx} {Wx : WX} {a b c d : Expr} {i j l m : Nat} {x y z u : Str} {px py pz pu pt pt2 pos : Pos} {kt k2 : Nat} {h : Hk}
end
end Pm
namespace Pm
open PySem PySem.Spec PyProof.Rows L2 RZ


def idxL (l : List D) (d : D) : Option D := if okd 40 d = true ∧ l.all (okd 39) = true then (l.findIdx? fun z => deq z d).map fun (j : Nat) => .int j else none
def fIdx (x y : M D) : M D := x.bind fun a => (M.opt (lstD a)).bind fun l => y.bind fun d => M.opt (idxL l d)
theorem m_lindex {X : Cx} {Wx : WX} {a e : Expr} {apos cpos : Pos} {f g : Dn} (hu : X.A.units + 65 < cLine) (ha : PRm X Wx a f) (he : PEm X Wx e g) (hbase : attributeBase a "index" X.env (eval a X.env) = eval a X.env := by rfl)
    (hfew : ((backTo cpos (starEach (e :: []) X.env)).all (fun x => !x.1) && (backToKw cpos (keywordEach [] X.env)).all (fun x => x.1.isSome)
      && decide ((e :: ([] : List Expr)).length + ([] : List Keyword).length + (if ([] : List Keyword).isEmpty then 0 else 1) < 30)) = true := by rfl)
    (hline : (apos.endLine == cpos.line) = true := by rfl) (hs : starEach (e :: []) X.env = (false, eval e X.env) :: starEach [] X.env := by rfl) (hplain : (backTo cpos (starEach [] X.env)).any (·.1) = false := by rfl) :
    PEm X Wx (.Call (.Attribute a "index" apos) [e] [] cpos) (fun sl => fIdx (f sl) (g sl)) := by
  refine (pe_bm PySem.F.plainAttrs_list PySem.F.slot_list_index PySem.F.type_list_index (mt_indexD hu) ha (pa_cons he pa_nil hs) hbase hfew hline hs hplain).mimp fun σ H Q ⟨ws, B0, sl, w, e, h⟩ => ?_
  refine ⟨ws, B0, sl, w, e, (runAt.bind h).mono fun ws1 w1 x H1 l1 e1 h1 v hv => ?_⟩
  obtain ⟨l, rfl⟩ : ∃ l, x = .lst l := by
    cases x with
    | lst l => exact ⟨l, rfl⟩
    | _ => exact h1.elim
  have h1 : runAt X.K X.mg Wx ws1 B0 sl σ H1 (M.bind (g sl) (fun d => M.opt (idxL l d)) w1) (fun ws' x d H' => ∀ (v : V), DR X.K ws' (Bad ws' B0 sl σ) H' v d → Q v H') := h1
  have dx := e1.rv hv rfl
  obtain ⟨zx, a1, xs, rfl, ha1, ra⟩ := dx
  refine ⟨.inl ⟨rfl, xs, .inl (.inl ha1)⟩, ws1, B0, sl, w1, e1, (runAt.bind h1).mono fun ws2 w2 y H2 l2 e2 h2 u hu' => ?_⟩
  obtain ⟨d, q3, h2⟩ := runAt.opt h2
  have dx2 := e2.rv (RV.le l2 hv) rfl
  unfold idxL at q3
  split at q3
  · rename_i hc
    simp only [Option.map_eq_some_iff] at q3
    obtain ⟨j, hj, rfl⟩ := q3
    obtain ⟨hlt, hj1, hj2⟩ := List.findIdx?_eq_some_iff_getElem.mp hj
    have hL : okd 40 (.lst l) = true := by rw [okd]; exact hc.2
    have ok : ∀ z ∈ l, okd 40 z = true := fun z hz => okd_up (List.all_eq_true.mp hc.2 z hz)
    refine ⟨a1, u, toPy y, toPys l, j, toPy l[j], rfl, rfl, dw_dp hL dx2, dw_dp hc.1 (hu'.dw (fun z => by rw [z] at hc; simp [okd] at hc) (fun k T m z => by rw [z] at hc; simp [okd] at hc) (fun k z => by rw [z] at hc; simp [okd] at hc) (fun k z => by rw [z] at hc; simp [okd] at hc) (fun k z => by rw [z] at hc; simp [okd] at hc)), shaped_of hL (by decide), shaped_of hc.1 (by decide), ?_, ?_, fun m z' hm hz' => ?_, runAt.here e2 h2 _ (.int j)⟩
    · rw [toPys_map, List.getElem?_map, List.getElem?_eq_getElem hlt]; rfl
    · rw [deq_of 40 _ _ (ok _ (List.getElem_mem hlt)) hc.1]; exact hj1
    · have hml : m < l.length := by omega
      rw [toPys_map, List.getElem?_map, List.getElem?_eq_getElem hml] at hz'
      cases hz'
      rw [deq_of 40 _ _ (ok _ (List.getElem_mem hml)) hc.1]
      simpa using hj2 m hm
  · cases q3
end Pm
namespace Pm
open PySem PySem.Spec PyProof.Rows L2 RZ


section
variable {X : Cx} {Wx : WX} {a e : Expr} {apos pos : Pos} {f g : Dn}
end
end Pm
namespace Pm
open PySem PySem.Spec PyProof.Rows L2 RZ


section
variable {X : Cx} {Wx : WX} {ke ve : Expr} {pos : Pos} {f g : Dn}
end
end Pm
namespace Pm
open PySem PySem.Spec PyProof.Rows L2 RZ


end Pm
namespace Pm
open PySem PySem.Spec PyProof.Rows L2 RZ


section
variable {K : PySem.W.Frag}
end
end Pm
namespace Pm
open PySem PySem.Spec PyProof.Rows L2


section
variable {K : PySem.W.Frag} {mg : Str → Option Value} {Wx : WX} {ws : Wa} {B0 : Addr → Prop} {sl : Ls} {w : W} {σ : L2.St} {H : Hp} {nx bk ct : Kn} {D0 : Ends}
end
section
variable {X : Cx} {Wx : WX} {k e : Expr} {pos np apos cpos apos2 cpos2 lpos : Pos} {x : Str} {f g : Dn}
end



end Pm
namespace Pm
open PySem PySem.Spec PyProof.Rows L2 RZ


section
variable {K : PySem.W.Frag} {mg : Str → Option Value} {Wx : WX} {ws : Wa} {B0 : Addr → Prop} {sl : Ls} {w : W} {σ : L2.St} {H : Hp}
end


section
variable {κ : Type} [DecidableEq κ]
def valG (es : List (κ × D)) (k : κ) : Option D := (es.find? fun kv => decide (kv.1 = k)).map (·.2)
def putG (es : List (κ × D)) (k : κ) (d : D) : List (κ × D) := if (es.any fun kv => decide (kv.1 = k)) then es.map (fun kv => if kv.1 = k then (kv.1, d) else kv) else es ++ [(k, d)]
def KRG (K : PySem.W.Frag) (ws : Wa) (B : Addr → Prop) (H : Hp) (kvs : List (κ × V)) (es : List (κ × D)) : Prop := kvs.map (·.1) = es.map (·.1) ∧ DRs K ws B H (kvs.map (·.2)) (es.map (·.2))
variable {K : PySem.W.Frag} {ws : Wa} {B : Addr → Prop} {H : Hp} {v : V} {d : D} {k : κ}
theorem KRG.cons_of {p : κ × V} {kvs : List (κ × V)} {q : κ × D} {es : List (κ × D)} (h : KRG K ws B H (p :: kvs) (q :: es)) : p.1 = q.1 ∧ DR K ws B H p.2 q.2 ∧ KRG K ws B H kvs es := by
  obtain ⟨h1, h2⟩ := h
  simp only [List.map_cons, List.cons.injEq] at h1 h2
  cases h2 with | cons a b => exact ⟨h1.1, a, h1.2, b⟩
theorem KRG.cons {p : κ × V} {kvs : List (κ × V)} {q : κ × D} {es : List (κ × D)} (h1 : p.1 = q.1) (h2 : DR K ws B H p.2 q.2) (h : KRG K ws B H kvs es) : KRG K ws B H (p :: kvs) (q :: es) :=
  ⟨by simp only [List.map_cons, h1, h.1], .cons h2 h.2⟩
theorem KRG.val : ∀ {kvs : List (κ × V)} {es : List (κ × D)}, KRG K ws B H kvs es → valG es k = some d → ∃ v, valV kvs k = some v ∧ DR K ws B H v d
  | [], [], _, e => by cases e
  | [], _ :: _, h, _ => by have := h.1; simp at this
  | _ :: _, [], h, _ => by have := h.1; simp at this
  | p :: kvs, q :: es, h, e => by
    obtain ⟨h1, h2, h3⟩ := h.cons_of
    unfold valG at e
    rw [List.find?_cons] at e
    by_cases z : q.1 = k
    · rw [decide_eq_true z] at e
      cases e
      exact ⟨p.2, valV_pos (h1.trans z), h2⟩
    · rw [decide_eq_false z] at e
      rw [valV_neg (by rw [h1]; exact z)]
      exact KRG.val h3 e
theorem KRG.none : ∀ {kvs : List (κ × V)} {es : List (κ × D)}, KRG K ws B H kvs es → valG es k = none → valV kvs k = none
  | [], _, _, _ => rfl
  | _ :: _, [], h, _ => by have := h.1; simp at this
  | p :: kvs, q :: es, h, e => by
    obtain ⟨h1, h2, h3⟩ := h.cons_of
    unfold valG at e
    rw [List.find?_cons] at e
    by_cases z : q.1 = k
    · rw [decide_eq_true z] at e
      cases e
    · rw [decide_eq_false z] at e
      rw [valV_neg (by rw [h1]; exact z)]
      exact KRG.none h3 e
theorem KRG.len {kvs : List (κ × V)} {es : List (κ × D)} (h : KRG K ws B H kvs es) : kvs.length = es.length := by have := congrArg List.length h.1; simpa using this
theorem KRG.any {kvs : List (κ × V)} {es : List (κ × D)} (h : KRG K ws B H kvs es) : (kvs.any fun kv => decide (kv.1 = k)) = es.any fun kv => decide (kv.1 = k) := by
  have e : ∀ {β : Type} (l : List (κ × β)), (l.any fun kv => decide (kv.1 = k)) = (l.map (·.1)).any fun z => decide (z = k) := fun l => by rw [List.any_map]; rfl
  rw [e, e, h.1]
theorem KRG.rep : ∀ {kvs : List (κ × V)} {es : List (κ × D)}, KRG K ws B H kvs es → DR K ws B H v d → KRG K ws B H (kvs.map fun kv => if kv.1 = k then (kv.1, v) else kv) (es.map fun kv => if kv.1 = k then (kv.1, d) else kv)
  | [], [], _, _ => ⟨rfl, .nil⟩
  | [], _ :: _, h, _ => by have := h.1; simp at this
  | _ :: _, [], h, _ => by have := h.1; simp at this
  | p :: kvs, q :: es, h, hd => by
    obtain ⟨h1, h2, h3⟩ := h.cons_of
    rw [List.map_cons, List.map_cons]
    refine .cons ?_ ?_ (KRG.rep h3 hd)
    · rw [h1]; split
      · rfl
      · exact h1
    · rw [h1]; split
      · exact hd
      · exact h2
theorem KRG.put {kvs : List (κ × V)} {es : List (κ × D)} (h : KRG K ws B H kvs es) (hd : DR K ws B H v d) : KRG K ws B H (putK kvs k v) (putG es k d) := by
  unfold putK putG
  rw [h.any]
  split
  · exact h.rep hd
  · refine ⟨by simp [h.1], ?_⟩
    rw [List.map_append, List.map_append]
    exact h.2.append (.one hd)
end
def dtD : D → Option (List (List Key × D))
  | .dt l => some l
  | _ => none
end Pm
namespace Pm
open PySem PySem.Spec PyProof.Rows L2 RZ PySem.SeqAt PySem.W


def ltP (a b : Int × Int) : Bool := decide (a.1 < b.1 ∨ (a.1 = b.1 ∧ a.2 < b.2))
def minPL (p : Int × Int) (ps : List (Int × Int)) : Int × Int := ps.foldl (fun a y => if ltP y a then y else a) p
end Pm
namespace Pm
open PySem PySem.Spec PyProof.Rows L2 RZ


def isIntV : Value → Bool
  | .int _ _ => true
  | _ => false
def isTupI : Obj → Bool
  | ⟨.type t, _, .seq its _, _⟩ => t == "tuple" && (!its.toList.isEmpty) && its.toList.all isIntV
  | _ => false
def noTup (K : PySem.W.Frag) : Bool := !kfl K && K.all fun p => !isTupI p.2
theorem lookup_mem {α β : Type} [BEq α] [LawfulBEq α] {a : α} {b : β} : ∀ {l : List (α × β)}, l.lookup a = some b → (a, b) ∈ l
  | [], h => by cases h
  | (x, y) :: l, h => by
    rw [List.lookup_cons] at h
    split at h
    · rename_i e
      cases h
      rw [eq_of_beq e]
      exact List.mem_cons_self
    · exact List.mem_cons_of_mem _ (lookup_mem h)
theorem vals_ints : ∀ {is : List Int} {us : List Value}, Vals (is.map fun i => kV (.inl i)) us → us.all isIntV = true
  | [], us, h => by cases h; rfl
  | i :: is, us, h => by
    cases h with
    | cons r t =>
      obtain ⟨u, hu⟩ := r
      rw [List.all_cons, vals_ints t, hu]
      rfl
theorem kf_of {K : PySem.W.Frag} (hK : noTup K = true) (f : kfl K = true) : False := by
  unfold noTup at hK
  rw [f] at hK; cases hK
theorem no_kt {K : PySem.W.Frag} (hK : noTup K = true) {a : Addr} {is : List Int} (h0 : is ≠ []) (h : KT K a (is.map fun i => kV (.inl i))) : False := by
  obtain ⟨o, its, n, h1, h2, h3, h4, h5⟩ := h
  have hm := lookup_mem h1
  unfold noTup at hK
  rw [Bool.and_eq_true] at hK
  replace hK := hK.2
  rw [List.all_eq_true] at hK
  have q := hK _ hm
  obtain ⟨oc, od, odt, osl⟩ := o
  cases h2
  cases h3
  have hl := h5.length
  rw [List.length_map] at hl
  have e1 := vals_ints h5
  have e2 : its.toList.isEmpty = false := by
    cases e : its.toList with
    | nil => rw [e] at hl; exact absurd (List.length_eq_zero_iff.mp hl) h0
    | cons _ _ => rfl
  simp [isTupI, e1, e2] at q
def intsD : List D → Option (List Int)
  | [] => some []
  | .int i :: r => (intsD r).map (i :: ·)
  | _ => none
theorem intsD_eq : ∀ {ds : List D} {is : List Int}, intsD ds = some is → ds = is.map D.int
  | [], _, h => by cases h; rfl
  | d :: ds, is, h => by
    cases d <;> first | (cases h; done) | skip
    simp only [intsD, Option.map_eq_some_iff] at h
    obtain ⟨js, hj, rfl⟩ := h
    rw [List.map_cons, intsD_eq hj]
def keyI : D → Option (List Key)
  | .tup (.int i :: r) => (intsD r).map fun is => (i :: is).map Sum.inl
  | _ => none
theorem keyI_eq {d : D} {ks : List Key} (h : keyI d = some ks) : ∃ is : List Int, is ≠ [] ∧ d = .tup (is.map D.int) ∧ ks = is.map Sum.inl := by
  unfold keyI at h
  split at h
  · rename_i i r
    obtain ⟨is, h1, rfl⟩ := Option.map_eq_some_iff.mp h
    exact ⟨i :: is, by simp, by rw [intsD_eq h1]; rfl, rfl⟩
  · cases h
theorem drs_ints {K : PySem.W.Frag} {ws : Wa} {B : Addr → Prop} {H : Hp} : ∀ {vs : List V} {is : List Int}, DRs K ws B H vs (is.map D.int) → vs = is.map fun i => kV (.inl i)
  | _, [], h => by cases h; rfl
  | _, i :: is, h => by
    rw [List.map_cons] at h
    cases h with
    | cons a r => cases a; rw [List.map_cons, ← drs_ints r]; rfl
theorem live_key {K : PySem.W.Frag} {ws : Wa} {B : Addr → Prop} {H : Hp} {v : V} {d : D} {ks : List Key} (hK : noTup K = true) (hv : DR K ws B H v d) (h : keyI d = some ks) : ∃ b, v = .ref b ∧ H b = some (.tup (ks.map kV)) := by
  obtain ⟨is, h0, rfl, rfl⟩ := keyI_eq h
  cases hv with
  | @tup b vs _ z t r =>
    have e := drs_ints r
    subst e
    rcases t with ⟨_, t⟩ | t | ⟨f, _⟩
    · exact ⟨b, rfl, by rw [t, List.map_map]; rfl⟩
    · exact (no_kt hK h0 t).elim
    · exact (kf_of hK f).elim
def fIxT (o : M D) (x : M D) : M D := o.bind fun a => (M.opt (dtD a)).bind fun l => x.bind fun k => M.opt ((keyI k).bind fun kk => valG l kk)
theorem m_ixT {X : Cx} {Wx : WX} {o e : Expr} {pos : Pos} {f g : Dn} (hu : X.A.units + 64 < cLine) (hK : noTup X.K = true) (ho : PRm X Wx o f) (he : PEm X Wx e g) (hs : NoSl e := by exact fun _ _ => rfl) :
    PEm X Wx (.Subscript o e pos) (fun sl => fIxT (f sl) (g sl)) := by
  refine (pe_dget (by omega) ho he hs).mimp fun σ H Q ⟨ws, B0, sl, w, en, q⟩ => ?_
  refine ⟨ws, B0, sl, w, en, (runAt.bind q).mono fun ws1 w1 a H1 l1 e1 q1 v hv => ?_⟩
  obtain ⟨l, hl, q2⟩ := runAt.opt (runAt.bind q1)
  have q3 := q2 ws1 H1 (Le.refl _ _ _) e1
  cases a <;> first | (cases hl; done) | skip
  cases hl
  refine ⟨ws1, B0, sl, w1, e1, (runAt.bind q3).mono fun ws2 w2 k H2 l2 e2 q4 u hu2 => ?_⟩
  obtain ⟨r, hr, q5⟩ := runAt.opt q4
  obtain ⟨kk, hk, hr⟩ := Option.bind_eq_some_iff.mp hr
  obtain ⟨b, rfl, hb⟩ := live_key hK hu2 hk
  obtain ⟨ad, kvs, rfl, s1, s2, s3⟩ := e2.rv (RV.le l2 hv) rfl
  have kr : KRG X.K ws2 (Bad ws2 B0 sl σ) H2 kvs l := ⟨s2, s3⟩
  obtain ⟨v', z1, z2⟩ := kr.val hr
  exact ⟨ad, v', rfl, by rw [← z1]; exact .t s1 hb, runAt.here e2 q5 v' z2⟩
def fGetX (o : M D) (x z : M D) : M D := o.bind fun a => (M.opt (dtD a)).bind fun l => x.bind fun k => z.bind fun d => M.opt ((keyI k).map fun kk => (valG l kk).getD d)
theorem m_getX {X : Cx} {Wx : WX} {o e d : Expr} {f g h : Dn} {apos cpos : Pos} (hu : X.A.units + 64 < cLine) (hK : noTup X.K = true) (ho : PRm X Wx o f) (he : PEm X Wx e g) (hd : PEm X Wx d h)
    (m : M2 X o "get" apos e d cpos := by first | exact ⟨rfl, rfl, rfl, rfl, rfl⟩ | exact ⟨rfl, rfl, rfl, rfl⟩ | exact ⟨rfl, rfl, rfl⟩) :
    PEm X Wx (.Call (.Attribute o "get" apos) [e, d] [] cpos) (fun sl => fGetX (f sl) (g sl) (h sl)) := by
  refine (pe_dget2 (by omega) ho he hd m).mimp fun σ H Q ⟨ws, B0, sl, w, en, q⟩ => ?_
  refine ⟨ws, B0, sl, w, en, (runAt.bind q).mono fun ws1 w1 a H1 l1 e1 q1 v hv => ?_⟩
  obtain ⟨l, hl, q2⟩ := runAt.opt (runAt.bind q1)
  have q3 := q2 ws1 H1 (Le.refl _ _ _) e1
  cases a <;> first | (cases hl; done) | skip
  cases hl
  obtain ⟨ad, kvs, rfl, r1, r2, r3⟩ := e1.rv hv rfl
  refine ⟨ad, rfl, .inr ⟨kvs, .inl r1⟩, ws1, B0, sl, w1, e1, (runAt.bind q3).mono fun ws2 w2 k H2 l2 e2 q4 u hu2 => ?_⟩
  refine ⟨ws2, B0, sl, w2, e2, (runAt.bind q4).mono fun ws3 w3 dd H3 l3 e3 q5 t ht => ?_⟩
  obtain ⟨r, hr, q6⟩ := runAt.opt q5
  obtain ⟨kk, hk, rfl⟩ := Option.map_eq_some_iff.mp hr
  obtain ⟨b, rfl, hb⟩ := live_key hK (hu2.le l3) hk
  obtain ⟨ad', kvs3, had, s1, s2, s3⟩ := e3.rv (RV.le (l2.trans l3) hv) rfl
  cases had
  have kr : KRG X.K ws3 (Bad ws3 B0 sl σ) H3 kvs3 l := ⟨s2, s3⟩
  refine ⟨valV kvs3 kk, .t s1 hb, ?_⟩
  cases qv : valG l kk with
  | none =>
    rw [kr.none qv]
    rw [qv] at q6
    exact runAt.here e3 q6 t ht
  | some y =>
    obtain ⟨v', z1, z2⟩ := kr.val qv
    rw [z1]
    rw [qv] at q6
    exact runAt.here e3 q6 v' z2
def dputX (l : List (List Key × D)) (k : D) (v : D) : Option D := (keyI k).bind fun kk => if l.length < sizeLine then some (.dt (putG l kk v)) else none
def fPutX (o : D) (x : M D) (v : D) : M D := (M.opt (dtD o)).bind fun l => x.bind fun k => M.opt (dputX l k v)
theorem ms_putX {X : Cx} {Wx : WX} {e j : Expr} {pos np tpos : Pos} {x : Str} {h g : Dn} (i : Nat) (hu : X.A.units + 64 < cLine) (hK : noTup X.K = true) (hi : PEm X Wx j g) (he : PEm X Wx e h) (hN : X.N[i]? = some x := by rfl) (hv : Vis X.env.scope x := by first | exact Or.inl rfl | exact Or.inr (Or.inl rfl) | exact Or.inr (Or.inr rfl)) (hd : (x == ("__debug__" : Str)) = false := by decide)
    (hcd : (x == ("__classdict__" : Str)) = false := by decide)
    (ha : ∀ v, assign (.Subscript (.Name x np) j tpos) X.env v = (do
      let ov ← holding [v] (eval (.Name x np) X.env)
      let iv ← holding [v, ov] (eval j X.env)
      standAt tpos
      holding [v, ov, iv] (setItem ov iv v)
      release [v, ov, iv] []) := by intro _; rfl)
    (hs : swapsWithSole [.Subscript (.Name x np) j tpos] e pos.line X.env = pure false := by rfl) (hw : swappedStores [.Subscript (.Name x np) j tpos] e X.env = pure none := by rfl)
    (h1 : (assignEach [.Subscript (.Name x np) j tpos] X.env).map (·.2) = [assign (.Subscript (.Name x np) j tpos) X.env] := by rfl) :
    PSm X Wx (.Assign [.Subscript (.Name x np) j tpos] e pos) (fun nx _ _ sl => (h sl).bind fun v => nOwK i sl fun o => (fPutX o (g sl) v).bind fun o' => nx (sl.set i (.ow o'))) := by
  refine (ps_asg he (pg_sub (pe_var hN hv hd hcd) hi (set_dict (by omega)) ha) hs hw h1).mimp fun D0 σ H ⟨ws, B0, sl, w, nx, bk, ct, e, q⟩ => ?_
  refine ⟨ws, B0, sl, w, e, (Ans.bind q).mono fun ws1 w1 v H1 l1 e1 q1 u hu => ?_⟩
  obtain ⟨d, hd, q2⟩ := nOwK_of q1
  unfold fPutX at q2
  rw [bind_assoc] at q2
  obtain ⟨l, hl, q3⟩ := Ans.opt q2
  rw [bind_assoc] at q3
  clear q1 q2
  cases d <;> first | (cases hl; done) | skip
  cases hl
  obtain ⟨a, p1, _⟩ := e1.ow i _ hd
  refine ⟨_, p1, ws1, B0, sl, w1, e1, (Ans.bind q3).mono fun ws2 w2 k H2 l2 e2 q4 kv hkv => ?_⟩
  obtain ⟨o', ho, q6⟩ := Ans.opt q4
  obtain ⟨a', r1, ⟨us, r2, r3, r4⟩, r5⟩ := e2.ow i _ hd
  rw [p1] at r1
  cases r1
  unfold dputX at ho
  simp only [Option.bind_eq_some_iff] at ho
  obtain ⟨ks, hks, ho⟩ := ho
  split at ho
  · rename_i hz2
    cases ho
    obtain ⟨b, rfl, hb⟩ := live_key hK hkv hks
    have kr : KRG X.K ws2 (Bad ws2 B0 sl σ) H2 us l := ⟨r3, r4⟩
    have hll := kr.len
    have hu2 := hu.le l2
    obtain ⟨l3, e3⟩ := e2.mutOwn hd p1 (o := .dT (putK us ks u)) (d' := .dt (putG l ks v)) ⟨_, rfl, (kr.put hu2).1, (kr.put hu2).2⟩
    exact ⟨_, _, rfl, .t r2 hb (by omega), q6.nx _ _ _ _ _ l3 e3 rfl⟩
  · cases ho

section
variable {K : PySem.W.Frag}
end
end Pm
namespace Pm
open PySem PySem.Spec PyProof.Rows L2 RZ PySem.SeqAt PySem.W


def rSortD (K : PySem.W.Frag) : List V → Hp → VK → Prop := fun xs H Q => ∃ (a : Addr) (ps : List (V × PyData)), xs = [.ref a] ∧ SqL K H a (ps.map (·.1)) ∧ DpAll K H (ps.map (·.1)) (ps.map (·.2)) ∧ AllAlike (ps.map (·.2)) ∧ Sortable (ps.map (·.2)) ∧ ps.length ≤ sizeLine ∧ (∀ p ∈ ps, p.2.depth ≤ 40) ∧
  ∀ p, H p = none → Q (.ref p) (upd H p (.lst ((ps.mergeSort (dataLe false (·.2))).map (·.1))))
theorem each_rel : ∀ {ps : List (V × PyData)} {us : List Value}, Vals (ps.map (·.1)) us → EachIs (fun (v : Value) (b : V × PyData) => RelV b.1 v) us ps
  | [], _, h => by cases h; exact .nil
  | p :: ps, _, h => by
    cases h with
    | cons a t => exact .cons a (each_rel t)
theorem rel_each : ∀ {ps : List (V × PyData)} {us : List Value}, EachIs (fun (v : Value) (b : V × PyData) => RelV b.1 v) us ps → Vals (ps.map (·.1)) us
  | [], _, h => by cases h; exact .nil
  | p :: ps, _, h => by
    cases h with
    | cons a t => exact .cons a (rel_each t)
theorem each_reads {h : Heap} : ∀ {ps : List (V × PyData)} {us : List Value} {as : List Addr}, ReadsAll h us (ps.map (·.2)) as → EachIs (fun (v : Value) (b : V × PyData) => ∃ as, Reads h v b.2 as) us ps
  | [], _, _, h => by cases h; exact .nil
  | p :: ps, _, _, h => by
    cases h with
    | cons a t => exact .cons ⟨_, a⟩ (each_reads t)
theorem call_sortD {X : Cx} (hu : X.A.units + 64 < cLine) : CallR X (.builtin "sorted") (rSortD X.K) := by
  intro pins s σ H xs us Q I r h
  obtain ⟨a, ps, rfl, hq, hd, hal, hs, hz, hdp, q⟩ := h
  obtain ⟨its, rv, pl, _⟩ := I.list hq
  rw [Vals.ref1 r]
  obtain ⟨as, hr⟩ := Dp.readsAll I _ _ _ hd rv
  refine sorted_data (R := fun (v : Value) (b : V × PyData) => RelV b.1 v) (bs := ps) (enc := (·.2)) pl.isList (each_rel rv) (each_reads hr) hal hs hz (fun b hb => by have := hdp b hb; omega) fun out hl ho => ?_
  obtain ⟨ep, he'⟩ := PyProof.Rows.sortedAll_at s.heap its out.toArray
  have hlen : ((ps.mergeSort (dataLe false (·.2))).map (·.1)).length ≤ sizeLine := by
    rw [List.length_map, List.length_mergeSort]
    exact hz
  exact ⟨.ref _, upd H (s.heap.objs.size + 1) (.lst ((ps.mergeSort (dataLe false (·.2))).map (·.1))), I.laid (t' := s.toks) (fun _ _ => PyProof.Rows.sortedAll_old) (Nat.le_succ _) ⟨hlen, out, ep, rel_each ho, he'⟩, rfl, q _ (I.hok.fresh (Nat.le_succ _))⟩
def srtD (a b : D) : Bool := dataLe false toPy a b
def isTup1 : D → Bool
  | .tup (_ :: _) => true
  | _ => false
def isFlatS : D → Bool
  | .int _ => true
  | .str _ => true
  | _ => false
def okSort (l : List D) : Bool := l.all (okd 40) && (l.all fun a => l.all fun b => alike (toPy a) (toPy b)) && (l.all isTup1 || l.all isFlatS)
def sortDF (ds : List D) : Option D := match ds with
  | [.lst l] => if okSort l = true then some (.lst (l.mergeSort srtD)) else none
  | _ => none
theorem sortable_of {l : List D} (h : (l.all isTup1 || l.all isFlatS) = true) : Sortable (l.map toPy) := by
  rcases Bool.or_eq_true_iff.mp h with h | h
  · refine .inl fun d hd => ?_
    obtain ⟨x, hx, rfl⟩ := List.mem_map.mp hd
    have := List.all_eq_true.mp h x hx
    cases x <;> first | (cases this; done) | skip
    rename_i ds
    cases ds with
    | nil => cases this
    | cons y r => exact ⟨toPy y, toPys r, rfl⟩
  · refine .inr fun d hd => ?_
    obtain ⟨x, hx, rfl⟩ := List.mem_map.mp hd
    have := List.all_eq_true.mp h x hx
    cases x <;> first | (cases this; done) | skip
    · exact ⟨fun z => by simp [toPy] at z, fun xs z => by simp [toPy] at z⟩
    · exact ⟨fun z => by simp [toPy] at z, fun xs z => by simp [toPy] at z⟩
theorem drs_zip {K : PySem.W.Frag} {ws : Wa} {B : Addr → Prop} {H : Hp} : ∀ {vs : List V} {ds : List D}, DRs K ws B H vs ds → ∀ p ∈ vs.zip ds, DR K ws B H p.1 p.2
  | _, _, .nil, p, h => by cases h
  | _, _, .cons a r, p, h => by
    rcases List.mem_cons.mp h with rfl | h
    · exact a
    · exact drs_zip r p h
theorem drs_of {K : PySem.W.Frag} {ws : Wa} {B : Addr → Prop} {H : Hp} : ∀ {ps : List (V × D)}, (∀ p ∈ ps, DR K ws B H p.1 p.2) → DRs K ws B H (ps.map (·.1)) (ps.map (·.2))
  | [], _ => .nil
  | p :: ps, h => .cons (h p List.mem_cons_self) (drs_of fun q hq => h q (List.mem_cons_of_mem _ hq))
theorem sort_map {α β : Type} (f : α → β) (s : β → β → Bool) (l : List α) : (l.mergeSort fun a b => s (f a) (f b)).map f = (l.map f).mergeSort s :=
  List.map_mergeSort fun _ _ _ _ => rfl
theorem cs_sortD {K : PySem.W.Frag} : CallS K (rSortD K) sortDF := by
  intro ws B H xs ds d Q hb hx ho q
  unfold sortDF at ho
  split at ho
  · rename_i l
    obtain ⟨v, rfl, hv⟩ := one_of hx
    split at ho
    · rename_i hok
      cases ho
      unfold okSort at hok
      rw [Bool.and_eq_true, Bool.and_eq_true] at hok
      obtain ⟨⟨h1, h2⟩, h3⟩ := hok
      obtain ⟨z, a, vs, rfl, ha, ra⟩ := hv
      have hlen := ra.length
      have hdp := dp_all (n := 40) (fun v d hd r => dp_of 40 v d hd r) ra h1
      rw [toPys_map] at hdp
      have e1 : ((vs.zip l).map fun p => (p.1, toPy p.2)).map (·.1) = vs := by
        rw [List.map_map]
        exact List.map_fst_zip (by omega)
      have e2 : ((vs.zip l).map fun p => (p.1, toPy p.2)).map (·.2) = l.map toPy := by
        rw [List.map_map]
        show (vs.zip l).map (toPy ∘ (·.2)) = _
        rw [← List.map_map, List.map_snd_zip (by omega)]
      refine ⟨a, (vs.zip l).map fun p => (p.1, toPy p.2), rfl, by rw [e1]; exact .inl (.inl ha), by rw [e1, e2]; exact hdp, ?_, by rw [e2]; exact sortable_of h3, by rw [List.length_map, List.length_zip]; omega, ?_, fun p hp => ?_⟩
      · rw [e2]
        intro x hx y hy
        obtain ⟨x', hx', rfl⟩ := List.mem_map.mp hx
        obtain ⟨y', hy', rfl⟩ := List.mem_map.mp hy
        exact List.all_eq_true.mp (List.all_eq_true.mp h2 x' hx') y' hy'
      · intro p hp
        obtain ⟨⟨v, x⟩, hx, rfl⟩ := List.mem_map.mp hp
        have hx2 : x ∈ l := (List.of_mem_zip hx).2
        exact depth_of 40 x (List.all_eq_true.mp h1 x hx2)
      · have e3 : ((((vs.zip l).map fun p => (p.1, toPy p.2)).mergeSort (dataLe false (·.2))).map (·.1)) = ((vs.zip l).mergeSort fun p q => srtD p.2 q.2).map (·.1) := by
          have := sort_map (fun p : V × D => (p.1, toPy p.2)) (dataLe false (·.2)) (vs.zip l)
          rw [← this, List.map_map]
          rfl
        rw [e3]
        have e4 : l.mergeSort srtD = ((vs.zip l).mergeSort fun p q => srtD p.2 q.2).map (·.2) := by
          rw [sort_map (fun p : V × D => p.2) srtD, List.map_snd_zip (by omega)]
        rw [e4] at q
        refine q _ _ (Grow.new hp) (.lst (by rw [List.length_map, List.length_mergeSort, List.length_zip]; omega) (fun z => hb p z hp) upd_same (DRs.grow (Grow.new hp) (drs_of fun x hx => ?_)))
        exact drs_zip ra x (List.mem_mergeSort.mp hx)
    · cases ho
  · cases ho
theorem ct_sortD : CallT sortDF := fun ds d h => by unfold sortDF at h; split at h <;> first | rfl | cases h
theorem m_sortD {X : Cx} {Wx : WX} {a : Expr} {pos p : Pos} {g : An} (hu : X.A.units + 64 < cLine) (ha : PArm X Wx [a] g) (hm : X.mg "sorted" = none) (hg : Gl X "sorted" := by rfl) (he : starEach [a] X.env = (false, eval a X.env) :: starEach [] X.env := by rfl) : PEm X Wx (.Call (.Name "sorted" p) [a] [] pos) (fun sl => fCB sortDF (g sl)) :=
  m_callB (call_sortD hu) cs_sortD ct_sortD hg hm (by decide +kernel) ha (by decide) (by decide) he rfl
end Pm
namespace Pm
open PySem PySem.Spec PyProof.Rows L2 RZ


section
variable {prog : Program} {w : World} {A : Around} {E : Value → Shared → Prop} {s : Shared} {r d : Addr} {es : Array DictEntry} {ep : Nat}
theorem raw_init {R : Result → Shared → Prop} (hh : A.handled = none) (hv : s.heap.IsItemsView r d) (hm : DT.Raw s.heap d es ep) (S : Addr) (hSr : S ≠ r) (hSd : d ≠ S) (hS : s.heap.get? S = some { cls := .type "list", data := .seq #[] })
    (hR : ∀ h' tk acc c as, (∀ b o, b ≠ S → s.heap.get? b = some o → h'.get? b = some o) → h'.get? S = some { cls := .type "list", dict := none, data := .seq acc c, slots := #[] } → as.length = es.size → DT.Made es S h' as →
      acc.toList = as.map Value.ref → R (.ok (.ret .none)) { s with heap := h', toks := tk }) (hn : es.size ≤ sizeLine) :
    wpAny (model prog w) A.in1 (Builtin.«list.__init__» ⟨[.ref S, .ref r], []⟩)
      (fun fin s' => match fin with | .done f => R (.ok f) s' | .again c' => c'.quiet = true ∧ codeAny (model prog w) A c' R s') (fun e s' => R (.error e) s') s := by
  show wpAny _ _ (Builtin.List.listItems (.ref S) >>= fun old => Builtin.List.listUpdate (.ref S) (fun _ => #[]) >>= fun _ => letGo old.toList.reverse >>= fun _ => Builtin.List.listExtendWith (.ref S) (.ref r) .none) _ _ s
  unfold Builtin.List.listItems
  refine wpAny_bind (wpAny_bind (wpAny_seqItems hS rfl (wpAny_pure (wpAny_bind ?_))))
  show wpAny _ _ (updateSeq S (fun _ => #[])) _ _ s
  refine wpAny_updateSeq hS rfl (wpAny_bind (wpAny_letGo ?_))
  have stay : ∀ b o, b ≠ S → s.heap.get? b = some o → (s.heap.update S (Obj.mapSeq (fun _ => (#[] : Array Value)))).get? b = some o :=
    fun b o hb e => (Heap.get?_update_other _ _ (Ne.symm hb)).trans e
  have hS' := Heap.get?_update_self (Obj.mapSeq (fun _ => (#[] : Array Value))) hS rfl
  obtain ⟨ov, hov, hvv⟩ := hv
  refine DT.extI (es := es) (ep := ep) hh ⟨ov, stay r ov hSr.symm hov, hvv⟩ (hm.at' fun o e => stay d o hSd e) S hSr hSd .none _ hS' (fun h' tk acc c as k1 k2 k3 k4 k5 => ?_) hn
  exact hR h' tk acc c as (fun b o hb e => k1 b o hb (stay b o hb e)) k2 k3 (k4.low (Nat.le_of_lt (Heap.lt_size hS'))) k5
theorem raw_call {Q : Value → Shared → Prop} (hh : A.handled = none) (hv : s.heap.IsItemsView r d) (hm : DT.Raw s.heap d es ep) (hn : es.size ≤ sizeLine)
    (hQ : ∀ h' tk acc c as, (∀ b o, s.heap.get? b = some o → h'.get? b = some o) → h'.get? s.heap.objs.size = some { cls := .type "list", dict := none, data := .seq acc c, slots := #[] } → as.length = es.size → DT.Made es s.heap.objs.size h' as →
      acc.toList = as.map Value.ref → Q (.ref s.heap.objs.size) { s with heap := h', toks := tk }) :
    wpAny (model prog w) A (call (.type "list") [.ref r]) Q E s := by
  refine callType_codes (Q₁ := fun obj s₁ => obj = .ref s.heap.objs.size ∧ s₁ = { s with heap := s.heap.push { cls := .type "list", data := .seq #[] } }) PySem.F.called_list (PySem.F.typeCall_list_1 _) PySem.F.entry_list_init
    (code_list_new _ ⟨rfl, rfl⟩) fun obj s₁ h₁ => ?_
  obtain ⟨rfl, rfl⟩ := h₁
  have hnew : (s.heap.push { cls := .type "list", data := .seq #[] }).get? s.heap.objs.size = some { cls := .type "list", data := .seq #[] } := Heap.get?_push_size _ rfl
  obtain ⟨ov, hov, hvv⟩ := hv
  refine ⟨⟨_, hnew, rfl⟩, PySem.F.args_list_init_2 _ _, raw_init (es := es) (ep := ep) (A := A.in1) hh ⟨ov, Heap.get?_push_of_some _ hov, hvv⟩ (hm.push _) _ (Nat.ne_of_gt (Heap.lt_size hov)) (Nat.ne_of_lt hm.lt) hnew (fun h' tk acc c as k1 k2 k3 k4 k5 => ?_) hn⟩
  exact ⟨rfl, hQ h' tk acc c as (fun b o e => k1 b o (Nat.ne_of_lt (Heap.lt_size e)) (Heap.get?_push_of_some _ e)) k2 k3 k4 k5⟩
end
theorem vals_refsP : ∀ as : List Addr, Vals (as.map V.ref) (as.map Value.ref)
  | [] => .nil
  | _ :: r => .cons rfl (vals_refsP r)
theorem ix_inj {as : List Addr} (h : as.Pairwise (· < ·)) {i j : Nat} {a : Addr} (hi : as[i]? = some a) (hj : as[j]? = some a) : i = j := by
  obtain ⟨h1, e1⟩ := List.getElem?_eq_some_iff.mp hi
  obtain ⟨h2, e2⟩ := List.getElem?_eq_some_iff.mp hj
  rw [List.pairwise_iff_getElem] at h
  rcases Nat.lt_trichotomy i j with z | z | z
  · have := h i j h1 h2 z; rw [e1, e2] at this; exact absurd this (Nat.lt_irrefl _)
  · exact z
  · have := h j i h2 h1 z; rw [e1, e2] at this; exact absurd this (Nat.lt_irrefl _)
theorem call_itemsT {X : Cx} (hc : X.calm = true) : CallR X (.type "list") (fun xs H Q => ∃ (p a : Addr) (kvs : List (List L2.Key × V)), xs = [.ref p] ∧ H p = some (DX.itemsO p a) ∧ H a = some (.dT kvs) ∧
    ∀ (H' : Hp) (l : Addr) (ts : List Addr), (∀ b o, H b = some o → H' b = some o) → H l = none → H' l = some (.lst (ts.map V.ref)) → ts.length = kvs.length → (∀ (j : Nat) (t : Addr) (q : List L2.Key × V), ts[j]? = some t → kvs[j]? = some q → ∃ b, H b = some (.tup (q.1.map kV)) ∧ H t = none ∧ H' t = some (.tup [.ref b, q.2])) → Q (.ref l) H') := by
  intro pins s σ H xs us Q I r h
  obtain ⟨p, a, kvs, rfl, hp, ha, q⟩ := h
  obtain rfl := Vals.ref1 r
  have view : s.heap.IsItemsView p a := (show ObjOk X.prog X.w H s.heap p (DX.itemsO p a) from I.hok p _ hp).1
  obtain ⟨z, hd, xs', rel, o, es, ep, ho, hx, hdat, hes, his, hn⟩ := dt_of I.hok ha
  have l1 : kvs.length = xs'.length := Paired.length rel
  have l2 : es.size = xs'.length := size_of_entries hes
  refine raw_call (es := es) (ep := ep) (I.ok.hd hc) view ⟨o, ho, hx, hdat⟩ (by omega) fun h' tk acc c as hk hS hl hG hacc => ?_
  have hSn : s.heap.objs.size ∉ as := fun z => Nat.lt_irrefl _ (hG.above _ z)
  have nd : as.Nodup := List.Pairwise.imp (fun {a b} (h : a < b) => Nat.ne_of_lt h) hG.rise
  have newS : H s.heap.objs.size = none := I.hok.fresh (Nat.le_refl _)
  have I1 : Inv X pins σ (upd H s.heap.objs.size (.lst (as.map V.ref))) { s with heap := h', toks := tk } := by
    refine I.laid (t' := tk) hk (Nat.le_refl _) ⟨by rw [List.length_map]; omega, acc.toList, c, by rw [hacc]; exact vals_refsP as, ?_⟩
    rw [Array.toArray_toList]
    exact hS
  have pr : ∀ (j : Nat) (t : Addr), as[j]? = some t → ∃ (e : List L2.Key × V) (b : Addr) (u : Value), kvs[j]? = some e ∧ H b = some (.tup (e.1.map kV)) ∧ RelV e.2 u ∧ h'.get? t = some { cls := .type "tuple", data := .seq #[Value.ref b, u] } := by
    intro j t hj
    obtain ⟨en, he, hg⟩ := hG.pairs j t hj
    rw [entry_at hes j] at he
    cases hxj : xs'[j]? with
    | none => rw [hxj] at he; cases he
    | some x =>
      rw [hxj] at he
      cases he
      obtain ⟨e0, he0, r1, r2, r3⟩ := DX.pget rel hxj
      exact ⟨e0, x.2.1, x.2.2, he0, r2, r3, hg⟩
  obtain ⟨H2, I2, g1, g2⟩ := DX.takeT (P := fun t vs => ∃ (j : Nat) (e : List L2.Key × V) (b : Addr), as[j]? = some t ∧ kvs[j]? = some e ∧ H b = some (.tup (e.1.map kV)) ∧ vs = [.ref b, e.2]) I as _ I1 nd fun t ht => by
    obtain ⟨j, hj⟩ := List.mem_iff_getElem?.mp ht
    obtain ⟨e, b, u, h1, h2, h3, h4⟩ := pr j t hj
    have ab := hG.above t ht
    refine ⟨Nat.le_of_lt ab, ?_, _, ⟨j, e, b, hj, h1, h2, rfl⟩, fun H2 => ⟨by show 2 ≤ sizeLine; decide, [.ref b, u], .cons rfl (.cons h3 .nil), _, h4, rfl, _, rfl⟩⟩
    rw [upd_ne (Nat.ne_of_gt ab)]
    exact I.hok.fresh (Nat.le_of_lt ab)
  refine ⟨.ref _, H2, I2, rfl, q H2 _ as (fun b o e => g1 b o (by rw [upd_ne (ne_of_none e newS)]; exact e)) newS (g1 _ _ upd_same) (by omega) fun j t qq hj hq => ?_⟩
  have ht := List.mem_of_getElem? hj
  obtain ⟨vs, ⟨j', e, b, k1, k2, k3, k4⟩, k5⟩ := g2 t ht
  have ej := ix_inj hG.rise hj k1
  subst ej
  rw [hq] at k2
  cases k2
  exact ⟨b, k3, I.hok.fresh (Nat.le_of_lt (hG.above t ht)), by rw [k5, k4]⟩
def kD : Key → D
  | .inl i => .int i
  | .inr x => .str x
def itemsDt (es : List (List Key × D)) : D := .lst (es.map fun p => .tup [.tup (p.1.map kD), p.2])
def okItems (es : List (List Key × D)) : Bool := decide (es.length ≤ sizeLine) && es.all fun p => decide (p.1.length ≤ sizeLine)
def fItemsL (o : M D) : M D := o.bind fun a => (M.opt (dtD a)).bind fun l => M.opt (if okItems l = true then some (itemsDt l) else none)
theorem drs_ix {K : PySem.W.Frag} {ws : Wa} {B : Addr → Prop} {H : Hp} : ∀ {vs : List V} {ds : List D}, vs.length = ds.length → (∀ (j : Nat) (v : V) (d : D), vs[j]? = some v → ds[j]? = some d → DR K ws B H v d) → DRs K ws B H vs ds
  | [], [], _, _ => .nil
  | [], _ :: _, h, _ => by cases h
  | _ :: _, [], h, _ => by cases h
  | v :: vs, d :: ds, h, q => .cons (q 0 v d rfl rfl) (drs_ix (Nat.succ.inj h) fun j v d h1 h2 => q (j + 1) v d (by simpa using h1) (by simpa using h2))
theorem drs_keys {K : PySem.W.Frag} {ws : Wa} {B : Addr → Prop} {H : Hp} : ∀ ks : List Key, DRs K ws B H (ks.map kV) (ks.map kD)
  | [] => .nil
  | .inl i :: ks => .cons (.int i) (drs_keys ks)
  | .inr x :: ks => .cons (.str x) (drs_keys ks)
theorem m_itemsL {X : Cx} {Wx : WX} {o : Expr} {p apos cpos pos : Pos} {f : Dn} (hc : X.calm = true) (ho : PRm X Wx o f) (hm : X.mg "list" = none) (hg : Gl X "list" := by rfl)
    (hbase : attributeBase o "items" X.env (eval o X.env) = eval o X.env := by rfl) (hline : (apos.endLine == cpos.line) = true := by rfl)
    (he : starEach [.Call (.Attribute o "items" apos) [] [] cpos] X.env = (false, eval (.Call (.Attribute o "items" apos) [] [] cpos) X.env) :: starEach [] X.env := by rfl) :
    PEm X Wx (.Call (.Name "list" p) [.Call (.Attribute o "items" apos) [] [] cpos] [] pos) (fun sl => fItemsL (f sl)) := by
  refine (pe_callTy (call_itemsT hc) hg hm rfl (pa_cons (pe_bm0 PySem.F.plainAttrs_dict PySem.F.slot_dict_items PySem.F.type_dict_items DX.mt_itemsT ho hbase hline) pa_nil) (by decide) (by decide) he rfl).mimp fun σ H Q ⟨ws, B0, sl, w, en, q⟩ => ?_
  refine ⟨ws, B0, sl, w, en, (runAt.bind q).mono fun ws1 w1 a H1 l1 e1 q1 v hv => ?_⟩
  obtain ⟨l, hl, q2⟩ := runAt.opt (runAt.bind q1)
  have q3 := q2 ws1 H1 (Le.refl _ _ _) e1
  cases a <;> first | (cases hl; done) | skip
  cases hl
  obtain ⟨ad, kvs, rfl, r1, r2, r3⟩ := e1.rv hv rfl
  obtain ⟨r, hr, q4⟩ := runAt.opt q3
  split at hr
  · rename_i hok
    cases hr
    refine ⟨.inr (.inr (.inl ⟨rfl, .inr ⟨kvs, r1⟩⟩)), ad, kvs, rfl, rfl, r1, fun p hp => ?_⟩
    refine ⟨p, ad, kvs, rfl, upd_same, by rw [upd_ne (ne_of_none r1 hp)]; exact r1, fun H' l2 ts k1 k2 k3 k4 k5 => ?_⟩
    unfold okItems at hok
    rw [Bool.and_eq_true, decide_eq_true_eq, List.all_eq_true] at hok
    have g : Grow H1 H' := fun b o e => k1 b o (by rw [upd_ne (ne_of_none e hp)]; exact e)
    have hln : H1 l2 = none := by
      cases q : H1 l2 with
      | none => rfl
      | some o => rw [upd_ne (ne_of_none q hp)] at k2; rw [q] at k2; cases k2
    have e2 := e1.grow g
    have kr : KRG X.K ws1 (Bad ws1 B0 sl σ) H' kvs l := ⟨r2, r3.grow g⟩
    have hlen := kr.len
    refine runAt.grow g e1 q4 _ (.lst (by rw [List.length_map]; exact hok.1) (e1.fresh hln) k3 (drs_ix (by simp; omega) fun j v d hj hd => ?_))
    rw [List.getElem?_map] at hj hd
    obtain ⟨t, ht, rfl⟩ := Option.map_eq_some_iff.mp hj
    obtain ⟨pe, hpe, rfl⟩ := Option.map_eq_some_iff.mp hd
    have hpl := hok.2 pe (List.mem_of_getElem? hpe)
    simp only [decide_eq_true_eq] at hpl
    have f1 := congrArg (fun l => l[j]?) kr.1
    simp only [List.getElem?_map, hpe, Option.map_some] at f1
    obtain ⟨qk, hq, eq1⟩ := Option.map_eq_some_iff.mp f1
    obtain ⟨b, z1, z2, z3⟩ := k5 j t qk ht hq
    obtain ⟨v', y1, y2⟩ := kr.2.get (show (l.map (·.2))[j]? = some pe.2 by rw [List.getElem?_map, hpe]; rfl)
    rw [List.getElem?_map, hq] at y1
    cases y1
    have z1' : H' b = some (.tup (qk.1.map kV)) := k1 _ _ z1
    have nt : ∀ {c : Addr} {us : List V}, H' c = some (.tup us) → ¬ Bad ws1 B0 sl σ c := fun h => e2.ntup h
    refine .tup (by show 2 ≤ sizeLine; decide) (.inl ⟨nt z3, z3⟩) (.cons (.tup (by rw [List.length_map]; exact hpl) (.inl ⟨nt z1', z1'⟩) (by rw [← eq1]; exact drs_keys _)) (.cons y2 .nil))
  · cases hr
end Pm
namespace Pm
open PySem PySem.Spec PyProof.Rows L2 RZ


theorem d_putT {X : Cx} {pins : List (Addr × Obj)} {σ : L2.St} {H : Hp} {s : Shared} {E : Value → Shared → Prop} {D b : Addr} {kvs : List (List L2.Key × V)} {k : List L2.Key} {v : V} {r : Value} {Q : Unit → Shared → Prop} (hu : X.A.units < cLine) (I : Inv X pins σ H s) (hD : H D = some (.dT kvs)) (hz : kvs.length < sizeLine)
    (hb : H b = some (.tup (k.map kV))) (rv : RelV v r) (h : ∀ s', Inv X pins σ (upd H D (.dT (putK kvs k v))) s' → Q () s') : wpAny (model X.prog X.w) X.A (dictSet D (.ref b) r) Q E s := by
  obtain ⟨z, hd, xs, rel, dd⟩ := dt_of I.hok hD
  have hxz : xs.length ≤ sizeLine := by rw [← Paired.length rel]; exact z
  have hl : (putK kvs k v).length ≤ sizeLine := by have := length_putK kvs k v; omega
  refine wpAny_dictSet_heap (hsz := hxz) (show (tupleKind (mixKind X.prog X.w)).room X.A from hu) (key_of I.hok hb) dd fun h' dd' hs => h _ ?_
  obtain ⟨q, es, ep, hq, h2, h3, h4, _, h5⟩ := dd'
  refine d_write I (by rw [hD]; exact True.intro) hs ⟨q, hq⟩ ⟨hl, hd, _, (rel.put k hb rv).keeps fun c ys ec => ?_, q, es, ep, hq, h2, h3, h4, h5⟩
  rw [upd_ne (ne_of ec hD (fun z => nomatch z))]
  exact ec
section
variable {X : Cx}
def stepT (g : TG) (tk tv : TE) (vs : List Nat) (σ : L2.St) (D : Addr) (x : V) (H : Hp) (Nx : Hp → Prop) : Prop := g x (wipe σ vs) H fun σ2 H2 => wipe σ2 vs = wipe σ vs ∧ tk σ2 H2 fun y H3 => tv σ2 H3 fun z H4 =>
  ∃ kvs k b, y = V.ref b ∧ H4 D = some (.dT kvs) ∧ H4 b = some (.tup (k.map kV)) ∧ kvs.length < sizeLine ∧ Nx (upd H4 D (.dT (putK kvs k z)))
def tDcT (wi : TI) (g : TG) (tk tv : TE) (vs : List Nat) : TE := fun σ H Q => wi σ H fun J H1 => ∀ D, H1 D = none → ∃ W : Nat → Nat → Hp → Prop, (∃ m, W 0 m (upd H1 D (.dT []))) ∧ ∀ i m H, W i m H →
  (J.stop i H ∧ Q (.ref D) H) ∨ (J.go i H ∧ ∃ Nx : Hp → Prop, (∀ H', Nx H' → ∃ m', m' < m ∧ W (i + 1) m' H') ∧ ∀ x H', J.yld i H x H' → stepT g tk tv vs σ D x H' Nx)
theorem pe_dcT {kx vx tg iter : Expr} {scope : Scope} {own : List (Str × Nat)} {pos : Pos} {wi : TI} {g : TG} {tk tv : TE} (hc : X.calm = true) (hu : X.A.units + 64 < cLine) (hN : X.N.Nodup) (hi : PI X tg iter wi) (ok : BlkOk X.N X.env.scope scope own)
    (hg : ∀ (s : Shared) (H : Hp) (C : Addr) (cl : List (Str × Addr)) (fp : List Addr), PG (X.blk s H scope (compEnvC scope cl C X.env) fp) tg g)
    (hk : ∀ (s : Shared) (H : Hp) (C : Addr) (cl : List (Str × Addr)) (fp : List Addr), PE (X.blk s H scope (compEnvC scope cl C X.env) fp) kx tk)
    (he : ∀ (s : Shared) (H : Hp) (C : Addr) (cl : List (Str × Addr)) (fp : List Addr), PE (X.blk s H scope (compEnvC scope cl C X.env) fp) vx tv) (hs : ∀ x, foldedSetIterable iter X.env x = pure x := by intro _; rfl) :
    PE X (.DictComp kx vx [⟨tg, iter, [], 0⟩] scope pos) (tDcT wi g tk tv (own.map (·.2))) := by
  refine ⟨fun pins s σ H Q I h => ?_⟩
  rw [arm_eval_DictComp]
  have hfree : ∀ y ∈ scope.names, y.2 = .free → ∃ c, X.env.cells.lookup y.1 = some c := fun y hy e => I.ok.has _ (by
    rcases ok.free y hy e with k | k
    · exact .inl k
    · exact .inr k)
  refine wpAny_comprehension_free rfl hs (closure_ok hfree) ok.kind (fun y hy e => by rw [ok.uniq y hy, e]) (thn (hi.run pins s σ H _ I h) fun xv s1 hx => thn hx fun itv s2 ⟨it, fp, tn, J, H2, e, I2, T, st2, f2, q⟩ => ?_)
  subst e
  refine wpAny_newObj_type (newEnv_comp ?_)
  have hDn : H2 s2.heap.objs.size = none := I2.hok.fresh (Nat.le_refl _)
  obtain ⟨W, ⟨m0, w0⟩, turn⟩ := q s2.heap.objs.size hDn
  have I3 : Inv X pins σ (upd H2 s2.heap.objs.size (.dT [])) { s2 with heap := s2.heap.push { cls := .type "dict", data := .dict #[] } } :=
    I2.laid (t' := s2.toks) (fun b o e => Heap.get?_push_of_some _ e) (Nat.le_refl _) (dt_empty s2.heap I2.big)
  have h3 : ({ s2 with heap := s2.heap.push { cls := .type "dict", data := .dict #[] } } : Shared).heap = s2.heap.push { cls := .type "dict", data := .dict #[] } := rfl
  have f3 : ∀ b ∈ fp, FpOk X pins (upd H2 s2.heap.objs.size (.dT [])) b ∧ b < ({ s2 with heap := s2.heap.push { cls := .type "dict", data := .dict #[] } } : Shared).heap.objs.size := fun b hb => by
    obtain ⟨o, eo, _⟩ := T.obj _ _ st2 b hb
    have hlt := Heap.lt_size eo
    refine ⟨⟨?_, (f2 b hb).2⟩, by rw [h3, Heap.size_push]; exact Nat.lt_succ_of_lt hlt⟩
    rw [upd_ne (Nat.ne_of_lt hlt)]
    exact (f2 b hb).1
  have st3 : tn 0 ({ s2 with heap := s2.heap.push { cls := .type "dict", data := .dict #[] } } : Shared).heap := T.keep _ _ _ st2 fun b _ o e => by rw [h3]; exact Heap.get?_push_of_some _ e
  generalize s2.heap.objs.size = D at hDn w0 turn I3 f3 ⊢
  generalize ({ s2 with heap := s2.heap.push { cls := .type "dict", data := .dict #[] } } : Shared) = s3 at I3 f3 st3 ⊢
  clear h3
  have I4 := block_start I3 ok hN f3
  have pg := hg s3 (upd H2 D (.dT [])) s3.heap.objs.size (cellsFrom (s3.heap.objs.size + 1) scope.names (cloFrom X.env.cells scope.names [])) fp
  have pk := hk s3 (upd H2 D (.dT [])) s3.heap.objs.size (cellsFrom (s3.heap.objs.size + 1) scope.names (cloFrom X.env.cells scope.names [])) fp
  have pv := he s3 (upd H2 D (.dT [])) s3.heap.objs.size (cellsFrom (s3.heap.objs.size + 1) scope.names (cloFrom X.env.cells scope.names [])) fp
  have nfp : ∀ b ∈ fp, (upd H2 D (.dT [])) b = none := fun b hb => (f3 b hb).1.1
  show codeAny _ _ (.compStart (.DictComp kx vx [⟨tg, iter, [], 0⟩] scope pos) 0 (.ref it) (.ref D) (compEnvC scope (cellsFrom (s3.heap.objs.size + 1) scope.names (cloFrom X.env.cells scope.names [])) s3.heap.objs.size X.env)) _ { s3 with heap := pushCells (s3.heap.push { cls := .type "dict", data := .dict #[] }) scope.names }
  generalize hce : compEnvC scope (cellsFrom (s3.heap.objs.size + 1) scope.names (cloFrom X.env.cells scope.names [])) s3.heap.objs.size X.env = ce at I4 pg pk pv ⊢
  have cL : ce.locals = s3.heap.objs.size := by subst hce; rfl
  generalize upd H2 D (.dT []) = H3 at I3 I4 pg pk pv w0 nfp f3
  have st4 : tn 0 ({ s3 with heap := pushCells (s3.heap.push { cls := .type "dict", data := .dict #[] }) scope.names } : Shared).heap := T.keep _ _ _ st3 fun b _ o e => pushCells_keeps _ _ _ _ (Heap.get?_push_of_some _ e)
  generalize ({ s3 with heap := pushCells (s3.heap.push { cls := .type "dict", data := .dict #[] }) scope.names } : Shared) = s4 at I4 st4 ⊢
  have stat : ∀ {σ' : L2.St} {H' : Hp} {s' : Shared}, Inv (X.blk s3 H3 scope ce fp) [] σ' H' s' → (∀ b ∈ fp, H' b = none) → ∀ b ∈ fp, FpOk (X.blk s3 H3 scope ce fp) [] H' b := fun {σ' H' s'} I' hn b hb =>
    ⟨hn b hb, (I'.ok.exf b hb).1, I'.ok.exfs b hb, .inl hb, fun x c e => (I'.ok.exf b hb).2 x c e, fun p hp => absurd (show p ∈ ([] : List (Addr × Obj)) ++ [] from hp) (by simp)⟩
  refine codeAny_compStart_dict ?loop (T.self X.A 0 _ _ _ st4 ?loop)
  refine compLoop_anyD (fun n s' => ∃ i H', Inv (X.blk s3 H3 scope ce fp) [] (wipe σ (own.map (·.2))) H' s' ∧ tn i s'.heap ∧ (∀ b ∈ fp, H' b = none) ∧ W i n H') ?_ m0 ⟨0, H3, I4, st4, nfp, w0⟩
  rintro n s5 ⟨i, H5, I5, st5, n5, w5⟩
  rcases turn i n H5 w5 with ⟨stop, qq⟩ | ⟨go, Nx, hNx, step⟩
  · refine thnF (T.done (X.blk s3 H3 scope ce fp) rfl rfl rfl hc i [] s5 _ H5 (fun _ _ => False) I5 (stat I5 n5) st5 stop) fun r s6 ⟨hr, I6⟩ => ?_
    subst hr
    have I7 : Inv X pins σ H5 s6 := I3.call' (ch := fp) I6.os I6.base I6.hok I6.bare fun b hb => ⟨(f3 b hb).1.2.2.2.1, (f3 b hb).1.2.1, (f3 b hb).1.2.2.2.2.1, (f3 b hb).1.2.2.2.2.2⟩
    have nC : H5 s3.heap.objs.size = none := by rw [← cL]; exact I6.free
    obtain ⟨m, hn, _⟩ := I6.loc
    have hn : s6.heap.Ns ce.locals m := hn
    rw [cL] at hn
    obtain ⟨f0, f1, f2, f3, f4, f5⟩ := I3.fpOk (Nat.le_refl s3.heap.objs.size) nC
    exact ⟨m, hn, fun h'' sb => ⟨.ref D, H5, I7.turned (t' := s6.toks) (fun b o hb e => (sb.2 b hb).trans e) f0 f1 f3 f4 f5, rfl, qq⟩⟩
  · refine thnF (T.item (X.blk s3 H3 scope ce fp) rfl rfl rfl hc i [] s5 _ H5 (fun _ _ => False) I5 (stat I5 n5) st5 go) fun r s6 ⟨u, hr, h6⟩ => ?_
    subst hr
    refine thnF h6 fun _ s7 ⟨x, H7, I7, r7, y7, st7, n7⟩ => ?_
    have I7' := I7.pinned (stat I7 n7) (T.obj _ _ st7)
    refine thnF (pg.run _ s7 _ H7 x u _ I7' r7 (step x H7 y7)) fun _ s8 ⟨σ8, H8, I8, hw8, q8⟩ => ?_
    refine thnF ((pts_yes (X := X.blk s3 H3 scope ce fp)).run _ s8 σ8 H8 (fun b H' => b = true ∧ tk σ8 H' fun y H3 => tv σ8 H3 fun z H4 => ∃ kvs k b, y = V.ref b ∧ H4 D = some (.dT kvs) ∧ H4 b = some (.tup (k.map kV)) ∧ kvs.length < sizeLine ∧ Nx (upd H4 D (.dT (putK kvs k z)))) I8 ⟨rfl, q8⟩) fun b s9 ⟨H9, I9, hb9, q9⟩ => ?_
    subst hb9
    simp only [if_true]
    refine thnF (pk.run _ s9 σ8 H9 _ I9 q9) fun z s10 ⟨yk, H10, I10, r10, q10⟩ => ?_
    refine thnF (pv.run _ s10 σ8 H10 _ I10 q10) fun z2 s11 ⟨yv, H11, I11, r11, kvs, k, kb, ek, hD11, hb11, hz11, nx⟩ => ?_
    subst ek
    obtain rfl : z = Value.ref kb := r10
    refine d_putT (X := X.blk s3 H3 scope ce fp) (show X.A.units < cLine by omega) I11 hD11 hz11 hb11 r11 fun s12 I12 => ?_
    obtain ⟨m', hm, w'⟩ := hNx _ nx
    have pin' : ∀ b ∈ fp, ∀ o, s7.heap.get? b = some o → s12.heap.get? b = some o ∧ (upd H11 D (.dT (putK kvs k yv))) b = none := fun b hb o e =>
      let z := I12.pin (b, o) (List.mem_append_right _ (List.mem_append_right _ (mem_pinsAt hb e)))
      ⟨z.1, z.2.1⟩
    have hl : (wipe σ (own.map (·.2))).length = σ8.length := by rw [← hw8, wipe_length]
    refine ⟨m', hm, i + 1, _, (I12.unpinned (pins := [])).weak hl (fun j v e => ?_), T.keep _ _ _ st7 fun b hb o e => (pin' b hb o e).1, fun b hb => ?_, w'⟩
    · rw [← hw8] at e
      exact (wipe_some e).1
    · obtain ⟨o, e, _⟩ := T.obj _ _ st7 b hb
      exact (pin' b hb o e).2
end


def put1 (es : List (List L2.Key × D)) (k v : D) : Option (List (List L2.Key × D)) := (keyI k).bind fun kk => if es.length < sizeLine then some (putG es kk v) else none
def fDcM (f : D → M (D × D)) : List D → List (List L2.Key × D) → M (List (List L2.Key × D))
  | [], es => M.pure es
  | x :: xs, es => (noEx (f x)).bind fun kv => (M.opt (put1 es kv.1 kv.2)).bind fun es' => fDcM f xs es'
def fDcT (items : M (List D)) (f : D → M (D × D)) : M D := items.bind fun l => (fDcM f l []).bind fun es => M.pure (.dt es)
def kvM (k v : M D) : M (D × D) := k.bind fun a => v.bind fun b => M.pure (a, b)
theorem dcM_noex {f : D → M (D × D)} : ∀ {l : List D} {es : List (List L2.Key × D)} {w w' : W} {c : Str}, fDcM f l es w ≠ .ex c w'
  | [], es, w, w', c, h => by cases h
  | x :: xs, es, w, w', c, h => by
    unfold fDcM M.bind at h
    cases q : noEx (f x) w with
    | ex c w1 => exact noEx_ex q
    | bad => rw [q] at h; cases h
    | ok a w1 =>
      rw [q] at h
      simp only at h
      cases q2 : put1 es a.1 a.2 with
      | none => rw [q2] at h; cases h
      | some es' => rw [q2] at h; exact dcM_noex h
section
variable (K : PySem.W.Frag) (B' : Addr → Prop) (D0 : Addr) (sl : Ls) (σ : L2.St) (ws0 : Wa) (O0 : Addr → Prop) (H0 : Hp)
structure CDt (ws : Wa) (w : W) (es : List (List L2.Key × D)) (H : Hp) : Prop where
  le : Le ws0 O0 H0 ws (Own sl σ) H
  env : Env K ws B' sl w σ H
  nD : ¬ ws.has D0
  acc : ∃ kvs, H D0 = some (.dT kvs) ∧ KRG K ws (Bad ws B' sl σ) H kvs es
end
theorem KRG.keep' {K : PySem.W.Frag} {ws ws' : Wa} {B B' : Addr → Prop} {H H' : Hp} {kvs : List (List L2.Key × V)} {es : List (List L2.Key × D)} (h : KRG K ws B H kvs es) (f : DRs K ws B H (kvs.map (·.2)) (es.map (·.2)) → DRs K ws' B' H' (kvs.map (·.2)) (es.map (·.2))) : KRG K ws' B' H' kvs es := ⟨h.1, f h.2⟩
section
variable {K : PySem.W.Frag} {mg : Str → Option Value} {B' : Addr → Prop} {D0 : Addr} {sl sl2 : Ls} {σ σ2 : L2.St} {ws0 ws ws2 : Wa} {O0 : Addr → Prop} {H0 H H2 : Hp} {w w2 : W} {es es2 : List (List L2.Key × D)} {vs ts : List Nat} {p : Gk}
theorem CDt.grow {H' : Hp} (g : Grow H H') (c : CDt K B' D0 sl σ ws0 O0 H0 ws w es H) : CDt K B' D0 sl σ ws0 O0 H0 ws w es H' :=
  ⟨c.le.trans (g.le _ _), c.env.grow g, c.nD, let ⟨kvs, h1, h2⟩ := c.acc; ⟨kvs, g _ _ h1, h2.keep' (·.grow g)⟩⟩
theorem CDt.nO (hBD : B' D0) (c : CDt K B' D0 sl σ ws0 O0 H0 ws w es H) : ¬ Own sl σ D0 := fun ⟨j, dj, z1, z2⟩ => by
  obtain ⟨a, y1, y2, y3, y4⟩ := c.env.ow j dj z1
  rw [z2] at y1
  cases y1
  exact y4 hBD
theorem CDt.after (hBD : B' D0) (c : CDt K B' D0 sl σ ws0 O0 H0 ws w es H) (l : Le ws (Own sl σ) H ws2 (Own sl2 σ2) H2) (e : Env K ws2 B' sl2 w2 σ2 H2) : CDt K B' D0 sl2 σ2 ws0 O0 H0 ws2 w2 es H2 := by
  obtain ⟨kvs, h1, h2⟩ := c.acc
  refine ⟨c.le.trans l, e, fun z => ?_, kvs, l.keep D0 _ h1 c.nD (c.nO hBD), h2.keep' (·.le l)⟩
  rcases l.new D0 z with q | q
  · exact c.nD q
  · rw [h1] at q; cases q
theorem CDt.back (hno : noOw vs sl = true) (cc : CDt K B' D0 sl σ ws0 O0 H0 ws w es H) (l : Le ws (Own sl σ) H ws2 (Own sl2 σ2) H2) (c : CDt K B' D0 sl2 σ2 ws0 O0 H0 ws2 w2 es2 H2) (hw : L2.wipe σ2 vs = L2.wipe σ vs) (hs : ∀ j, j ∉ vs → sl2[j]? = sl[j]?) :
    CDt K B' D0 sl σ ws0 O0 H0 ws2 w2 es2 H2 ∧ Le ws2 (Own sl2 σ2) H2 ws2 (Own sl σ) H2 := by
  obtain ⟨l', e', l2⟩ := cc.env.back (fun a z => .inl z) hno l c.env hw hs
  obtain ⟨kvs, h1, h2⟩ := c.acc
  exact ⟨⟨c.le.trans l2, e', c.nD, kvs, h1, h2.keep' (·.le l2)⟩, l2⟩
theorem CDt.push {v : V} {d : D} {k : List L2.Key} (hB : B' D0) (hn0 : H0 D0 = none ∨ O0 D0) (c : CDt K B' D0 sl σ ws0 O0 H0 ws w es H) (hd : DR K ws (Bad ws B' sl σ) H v d) (hz : es.length < sizeLine) :
    ∃ kvs, H D0 = some (.dT kvs) ∧ kvs.length < sizeLine ∧ CDt K B' D0 sl σ ws0 O0 H0 ws w (putG es k d) (upd H D0 (.dT (putK kvs k v))) := by
  obtain ⟨kvs, h1, h2⟩ := c.acc
  have hk : ∀ b u, H b = some u → ¬ Bad ws B' sl σ b → upd H D0 (.dT (putK kvs k v)) b = some u := fun b u h n => by
    rw [upd_ne (fun z => n (.inr (.inl (by rw [z]; exact hB))))]; exact h
  have hx := upd_ex (o := .dT (putK kvs k v)) (sm h1)
  have hall := h2.put (k := k) hd
  refine ⟨kvs, h1, by rw [h2.len]; exact hz, ⟨⟨c.le.wle, c.le.new, c.le.own, fun b u q1 q2 q3 => ?_, fun b z => c.le.ex b (hx b z)⟩, c.env.setB hB c.nD (by rw [h1]; trivial) trivial, c.nD, _, upd_same, hall.keep' (fun r => r.keep ws.le_refl hk fun _ z => .inl z)⟩⟩
  rw [upd_ne (fun z => by
    rcases hn0 with hn0 | hn0
    · rw [z, hn0] at q1; cases q1
    · exact q3 (by rw [z]; exact hn0))]
  exact c.le.keep b u q1 q2 q3
theorem dc_step {kf vf : Dn} {v : V} {x k y : D} {w1 : W} {es' : List (List L2.Key × D)} {Nx : Hp → Prop} (hK : noTup K = true) (hts : ∀ j ∈ ts, j ∈ vs) (hno : noOw vs sl = true) (hBD : B' D0) (hn0 : H0 D0 = none ∨ O0 D0)
    (cc : CDt K B' D0 sl σ ws0 O0 H0 ws w es H) (hd : DR K ws (Bad ws B' sl σ) H v x) (hp : p (D × D) x (fun sl1 => kvM (kf sl1) (vf sl1)) (setNo vs sl) w = .ok (k, y) w1) (hpt : put1 es k y = some es')
    (hnx : ∀ ws' H', CDt K B' D0 sl σ ws0 O0 H0 ws' w1 es' H' → Nx H') : stepT (tGm K ts p) (tE K mg W0 kf) (tE K mg W0 vf) vs σ D0 v H Nx := by
  obtain ⟨lw, ew⟩ := cc.env.wipe (vs := vs)
  refine ⟨ws, B', setNo vs sl, w, x, D × D, (fun sl1 => kvM (kf sl1) (vf sl1)), ew, hd.le lw, (by rw [hp]; exact fun z => by cases z), fun σ2 ws2 sl2 w2 H2 o2 u2 l2 e2 z2 => ?_⟩
  have hw := out_wipe o2 hts
  have hs : ∀ j, j ∉ vs → sl2[j]? = sl[j]? := fun j hj => by rw [u2 j (fun z => hj (hts j z)), setNo_out hj]
  refine ⟨hw, ?_⟩
  rw [hp] at z2
  obtain ⟨a, w3, f1, z3⟩ := bind_okE z2
  obtain ⟨b, w4, f2, z4⟩ := bind_okE z3
  cases z4
  have c2 := cc.after hBD (lw.trans l2) e2
  refine ⟨ws2, B', sl2, w2, e2, runAt_ok f1 fun ws3 H3 l3 e3 u hu => ?_⟩
  have c3 := c2.after hBD l3 e3
  refine ⟨ws3, B', sl2, w3, e3, runAt_ok f2 fun ws4 H4 l4 e4 t ht => ?_⟩
  have c4 := c3.after hBD l4 e4
  unfold put1 at hpt
  obtain ⟨kk, hk, hpt⟩ := Option.bind_eq_some_iff.mp hpt
  split at hpt
  · rename_i hz
    cases hpt
    obtain ⟨kb, rfl, hkb⟩ := live_key hK (hu.le l4) hk
    obtain ⟨cb, lb⟩ := CDt.back hno cc (((lw.trans l2).trans l3).trans l4) c4 hw hs
    obtain ⟨kvs, h1, h2, h3⟩ := cb.push (k := kk) hBD hn0 (ht.le lb) hz
    exact ⟨kvs, kk, kb, rfl, h1, hkb, h2, hnx _ _ h3⟩
  · cases hpt
theorem dc_loop {kf vf : Dn} {items : List D} {J : It} {esF : List (List L2.Key × D)} {wF : W} {Fin : Hp → Prop} (hK : noTup K = true) (hts : ∀ j ∈ ts, j ∈ vs) (hno : noOw vs sl = true) (hBD : B' D0) (hn0 : H0 D0 = none ∨ O0 D0)
    (hJ : ∀ ws w es H, CDt K B' D0 sl σ ws0 O0 H0 ws w es H → JOk K ws (Bad ws B' sl σ) J items H) (h0 : CDt K B' D0 sl σ ws0 O0 H0 ws w es H)
    (hrun : fDcM (fun x => p (D × D) x (fun sl1 => kvM (kf sl1) (vf sl1)) (setNo vs sl)) items es w = .ok esF wF) (fin : ∀ ws H, CDt K B' D0 sl σ ws0 O0 H0 ws wF esF H → Fin H) :
    ∃ W : Nat → Nat → Hp → Prop, (∃ m, W 0 m H) ∧ ∀ i m H, W i m H → (J.stop i H ∧ Fin H) ∨ (J.go i H ∧ ∃ Nx : Hp → Prop, (∀ H', Nx H' → ∃ m', m' < m ∧ W (i + 1) m' H') ∧ ∀ x H', J.yld i H x H' → stepT (tGm K ts p) (tE K mg W0 kf) (tE K mg W0 vf) vs σ D0 x H' Nx) := by
  refine ⟨fun i m H => m = items.length - i ∧ ∃ ws w es, CDt K B' D0 sl σ ws0 O0 H0 ws w es H ∧ fDcM (fun x => p (D × D) x (fun sl1 => kvM (kf sl1) (vf sl1)) (setNo vs sl)) (items.drop i) es w = .ok esF wF, ⟨_, rfl, ws, w, es, h0, hrun⟩, ?_⟩
  rintro i m H ⟨rfl, ws, w, es, c, hr⟩
  have hj := hJ ws w es H c i
  by_cases hi : i < items.length
  · have hd : items[i]? = some items[i] := by simp [hi]
    rw [List.drop_eq_getElem_cons hi] at hr
    obtain ⟨hgo, hy⟩ := hj.1 _ hd
    obtain ⟨kv, w1, q1, q2⟩ := bind_okE hr
    obtain ⟨es', w2, q3, q4⟩ := bind_okE q2
    have hpt : put1 es kv.1 kv.2 = some es' ∧ w2 = w1 := by
      cases q : put1 es kv.1 kv.2 with
      | none => rw [q] at q3; cases q3
      | some e => rw [q] at q3; cases q3; exact ⟨rfl, rfl⟩
    obtain ⟨hpt, rfl⟩ := hpt
    refine .inr ⟨hgo, fun H' => ∃ m', m' < items.length - i ∧ m' = items.length - (i + 1) ∧ ∃ ws w es, CDt K B' D0 sl σ ws0 O0 H0 ws w es H' ∧ fDcM _ (items.drop (i + 1)) es w = .ok esF wF, fun H' z => z, fun x H' hyl => ?_⟩
    obtain ⟨gr, hx⟩ := hy x H' hyl
    exact dc_step hK hts hno hBD hn0 (c.grow gr) hx (noEx_ok q1) hpt fun ws' H'' c' => ⟨_, by omega, rfl, ws', _, _, c', q4⟩
  · rw [List.drop_of_length_le (by omega)] at hr
    cases hr
    exact .inl ⟨hj.2 (by omega), fin ws H c⟩
end
section
variable {X : Cx} {Wx : WX} {kx vx tg iter : Expr} {scope : Scope} {own : List (Str × Nat)} {pos : Pos} {it : An} {p : Gk} {kf vf : Dn} {ts : List Nat}
theorem m_dcT (hc : X.calm = true) (hu : X.A.units + 64 < cLine) (hK : noTup X.K = true) (hN : X.N.Nodup) (hi : PIm X Wx tg iter it) (ok : BlkOk X.N X.env.scope scope own) (hts : ∀ j ∈ ts, j ∈ own.map (·.2))
    (hg : ∀ (s : Shared) (H : Hp) (C : Addr) (cl : List (Str × Addr)) (fp : List Addr), PGm (X.blk s H scope (compEnvC scope cl C X.env) fp) tg ts p)
    (hk : ∀ (s : Shared) (H : Hp) (C : Addr) (cl : List (Str × Addr)) (fp : List Addr), PEm (X.blk s H scope (compEnvC scope cl C X.env) fp) W0 kx kf)
    (he : ∀ (s : Shared) (H : Hp) (C : Addr) (cl : List (Str × Addr)) (fp : List Addr), PEm (X.blk s H scope (compEnvC scope cl C X.env) fp) W0 vx vf) (hs : ∀ x, foldedSetIterable iter X.env x = pure x := by intro _; rfl) :
    PEm X Wx (.DictComp kx vx [⟨tg, iter, [], 0⟩] scope pos) (fun sl => nNo (own.map (·.2)) sl (fDcT (it sl) fun x => p (D × D) x (fun sl1 => kvM (kf sl1) (vf sl1)) (setNo (own.map (·.2)) sl))) := by
  refine (pe_dcT (g := tGm X.K ts p) (tk := tE X.K X.mg W0 kf) (tv := tE X.K X.mg W0 vf) hc hu hN hi ok hg hk he hs).mimp fun σ H Q ⟨ws, B0, sl, w, e, h⟩ => ?_
  generalize own.map (·.2) = vs at *
  unfold nNo at h
  dsimp only at h
  cases hno : noOw vs sl with
  | false => rw [hno] at h; exact h.elim
  | true =>
    rw [hno] at h
    refine ⟨ws, B0, sl, w, e, ?_⟩
    unfold fDcT at h
    refine (runAt.bind h).mono fun ws1 w1 items H1 l1 e1 h1 J hz hJ D0 hD => ?_
    have h1 := runAt.bind h1
    cases q : fDcM (fun x => p (D × D) x (fun sl1 => kvM (kf sl1) (vf sl1)) (setNo vs sl)) items [] w1 with
    | bad => rw [q] at h1; exact h1.elim
    | ex y s2 => exact absurd q dcM_noex
    | ok es wF =>
      rw [q] at h1
      have gD := Grow.new (o := .dT []) hD
      have hB' : ∀ a, (B0 a ∨ a = D0) → B0 a ∨ (upd H1 D0 (.dT []) a ≠ none ∧ H1 a = none) := fun a z => z.imp id fun q => by subst q; exact ⟨sm upd_same, hD⟩
      have c0 : CDt X.K (fun a => B0 a ∨ a = D0) D0 sl σ ws1 (Own sl σ) H1 ws1 w1 [] (upd H1 D0 (.dT [])) :=
        ⟨gD.le _ _, e1.more hB' (fun a z => z.imp id fun q => by rw [q, upd_same]; trivial) gD, fun z => e1.wd D0 z hD, [], upd_same, rfl, .nil⟩
      refine dc_loop hK hts hno (.inr rfl) (.inl hD) (fun ws w as H c => hJ ws _ H c.le.wle c.le.kp (bad_more (fun a z => z.imp id fun q => by rw [q]; exact hD) c.le) c.env.bad) c0 q fun ws' H' c => ?_
      obtain ⟨kvs, k1, k2⟩ := c.acc
      have nb : ¬ Bad ws' B0 sl σ D0 := fun z => by
        rcases z with z | z | ⟨j, dj, z1, z2⟩
        · exact c.nD z
        · exact e1.dom D0 z hD
        · obtain ⟨a, y1, y2, y3, y4⟩ := c.env.ow j dj z1
          rw [z2] at y1
          cases y1
          exact y4 (.inr rfl)
      have e' := c.env.fewer (B0 := B0) fun a z => .inl z
      exact runAt.here e' (h1 ws' H' c.le e') _ (.dt nb k1 k2.1 k2.2.small)
end
end Pm
namespace Pm
open PySem PySem.Spec PyProof.Rows L2 RZ PySem.SeqAt PySem.W


end Pm
namespace Pm
open PySem PySem.Spec PyProof.Rows L2 RZ


def tPI (K : PySem.W.Frag) (mg : Str → Option Value) (Wx : WX) (ks : List Int) (g : An) : L2.St → Hp → (List (V × V) → Hp → Prop) → Prop := fun σ H Q => ∃ ws B0 sl w, Env K ws B0 sl w σ H ∧ runAt K mg Wx ws B0 sl σ H (g sl w) fun ws' _ ds H' => ds.length = ks.length ∧ ∀ vs, DRs K ws' (Bad ws' B0 sl σ) H' vs ds → Q ((ks.map V.int).zip vs) H'
structure PPmI (X : Cx) (Wx : WX) (pos : Pos) (keys : List (Option Expr)) (values : List Expr) (ks : List Int) (g : An) : Prop where
  get : ∃ trs, PPs X pos keys values trs ∧ ∀ σ H Q, tPI X.K X.mg Wx ks g σ H Q → tPairs trs σ H Q
section
variable {X : Cx} {Wx : WX} {pos : Pos} {keys : List (Option Expr)} {values : List Expr} {ks : List Int} {g : An}
end

end Pm
namespace Pm
open PySem PySem.Spec PyProof.Rows L2
def sNew (w : World) : Obj := { cls := .type "set", dict := none, data := .set #[] 0 (.fresh 0 0 (!w.params.followText "set-order")) }
def tIt (l : Addr) : Obj := { cls := .type "tuple_iterator", data := .fields #[.ref l, .int 0 0] }
section
variable {P : Program} {w : World} {A : Around} {E : Value → Shared → Prop} {s : Shared}
theorem call_setTT {l : Addr} {its : Array Value} (ks : List (Addr × List Int)) {Q : Value → Shared → Prop} (hA : A.handled = none) (ht : s.heap.IsTuple l its) (he : its.toList = ks.map fun p => Value.ref p.1)
    (hks : ∀ p ∈ ks, IsT P w s.heap p.2 p.1) (h64 : ks.length < 64) (hz : A.units + 3 < cLine)
    (kq : ∀ (g : Heap) (tk : Nat) L es ep t, SetTR P w g s.heap.objs.size L es ep t → Got ks ks.length L → (∀ b o, s.heap.get? b = some o → g.get? b = some o) → Q (.ref s.heap.objs.size) { s with heap := g, toks := tk }) :
    wpAny (model P w) A (call (.type "set") [.ref l]) Q E s := by
  have hn : its.size = ks.length := by
    rw [← Array.length_toList, he, List.length_map]
  obtain ⟨c0, tl0, mro0⟩ := F.called_set.mro
  have mk0 := F.called_set.made
  have sb0 := F.called_set.sub
  refine wpAny_call (codeAny_of_tree ?_)
  show wpAny _ _ (callAny (.type "set") _) _ _ s
  refine wpAny_pure ⟨Code.quiet_builtin _ (by decide +kernel), codeAny_builtin F.entry_type_call ?_⟩
  rw [Around.under_plain (weight_type_call_type "set" [.ref l] []) rfl]
  have nt0 := F.called_set.notType
  have cc0 := F.called_set.canCreate
  have tc0 := F.typeCall_set_1 (.ref l)
  repeat (any_goals (first | assumption | wp_step))
  refine codeAny_mono (code_set_led1 (.ref l) (E := E) (Q₁ := fun y s₁ => y = .ref s.heap.objs.size ∧ s₁ = { s with heap := s.heap.push (sNew w) }) ⟨rfl, rfl⟩) fun r s₁ hr => ?_
  cases r with
  | error e => exact hr
  | ok fl =>
    cases fl with
    | ret obj =>
      obtain ⟨rfl, rfl⟩ := hr
      have g0 : (s.heap.push (sNew w)).get? s.heap.objs.size = some (sNew w) := Heap.get?_push_size _ rfl
      have ty : Shared.TypeIs { s with heap := s.heap.push (sNew w) } (.ref s.heap.objs.size) "set" := ⟨_, g0, rfl⟩
      have il := F.called_set.init.lookup
      have ib := F.called_set.init.bind (.ref s.heap.objs.size)
      repeat (any_goals (first | assumption | wp_step))
      refine codeAny_mono (codeAny_call_builtin (R := wants (fun r s₂ => r = .none ∧ ∃ g tk L es ep t, s₂ = { s with heap := g, toks := tk } ∧ SetTR P w g s.heap.objs.size L es ep t ∧ Got ks ks.length L ∧ (∀ b o, s.heap.get? b = some o → g.get? b = some o)) E)
        F.called_set.init.plain F.entry_set_init (check_set_init_1 ty ?_)) fun r₂ s₂ hr₂ => ?_
      · obtain ⟨o0, ho0, hc0, n0, hd0⟩ := ht
        obtain ⟨oc, od, odt, os⟩ := o0
        simp only at hc0 hd0
        subst hc0; subst hd0
        have ho1 : (s.heap.push (sNew w)).get? l = some { cls := .type "tuple", dict := od, data := .seq its n0, slots := os } := Heap.get?_push_of_some _ ho0
        have st1 := F.sub_tuple_set
        have st2 := F.sub_tuple_frozenset
        have nd : (Value.type "tuple" == Value.type "dict") = false := by decide
        have it1 : (s.heap.push (sNew w)).IsTuple l its := ⟨_, ho1, rfl, n0, rfl⟩
        unfold sNew at *
        unfold Builtin.«set.__init__» noKeywords Builtin.Frozenset.updateFrom
        generalize hPI : pyIter = PI
        wp_walk
        subst hPI
        refine wpAny_pyIter_tuple it1 ?_
        refine wpAny_bind (wpAny_runValue ?_)
        have lt : l < s.heap.objs.size := Heap.lt_size ho0
        have hA3 : A.in1.in1.in1.handled = none := by simp [hA]
        have sz1 : (s.heap.push (sNew w)).objs.size = s.heap.objs.size + 1 := Heap.size_push ..
        have neI : l ≠ (s.heap.push (sNew w)).objs.size := by rw [sz1]; exact fun z => Nat.lt_irrefl _ (Nat.lt_trans (z ▸ lt) (Nat.lt_succ_self _))
        have nf : s.heap.objs.size ∉ [(s.heap.push (sNew w)).objs.size, l] := by
          rw [sz1]
          intro z
          rcases List.mem_cons.mp z with z | z
          · exact absurd z (Nat.ne_of_lt (Nat.lt_succ_self _))
          · exact absurd (List.mem_singleton.mp z) (Nat.ne_of_gt lt)
        have val : ∀ (i : Nat) (v : Value), its[i]? = some v → ∃ p, ks[i]? = some p ∧ v = .ref p.1 := fun i v hv => by
          have q : (ks.map fun p => Value.ref p.1)[i]? = some v := by rw [← he, Array.getElem?_toList]; exact hv
          rw [List.getElem?_map, Option.map_eq_some_iff] at q
          obtain ⟨p, hp, rfl⟩ := q
          exact ⟨p, hp, rfl⟩
        have none_at : ∀ b, s.heap.objs.size ≤ b → s.heap.get? b = none := fun b hb => by
          cases q : s.heap.get? b with
          | none => rfl
          | some o => exact absurd (Heap.lt_size q) (Nat.not_lt.mpr hb)
        refine set_update_tups ((Walks.tuple hA3 _ l neI its).toS) s.heap.objs.size nf ks hn h64 val s.heap hks (none_at _ (Nat.le_refl _)) (fun b hb => none_at b (by rw [List.mem_singleton.mp hb, sz1]; exact Nat.le_succ _)) hz (its.size - 0) 0 _ (by omega) (Nat.zero_le _)
          ⟨⟨_, Heap.get?_push_size _ rfl, rfl, rfl⟩, (it1.push _)⟩ (fun b o e => Heap.get?_push_of_some _ (Heap.get?_push_of_some _ e)) ?first ?last
        case first =>
          have g1 : ((s.heap.push (sNew w)).push (tIt l)).get? s.heap.objs.size = some (sNew w) := Heap.get?_push_of_some _ g0
          exact ⟨[], #[], 0, _, setTR_fresh g1, Got.zero ks⟩
        case last =>
          intro s' L es ep t hm hS got hk'
          obtain ⟨g, g2, d', tk', os'⟩ := s'
          obtain rfl : g2 = s.gens := hm.gens
          obtain rfl : d' = s.drawn := hm.drawn
          obtain rfl : os' = s.os := hm.os
          show wpAny _ _ _ _ _ _
          refine wpAny_pure ?_
          show wpAny _ _ (ret Value.none) _ _ _
          rw [hn] at got
          exact wpAny_pure ⟨rfl, g, tk', L, es, ep, t, rfl, hS, got, hk'⟩
      · cases r₂ with
        | error e => exact hr₂
        | ok fl₂ =>
          cases fl₂ with
          | ret r =>
            obtain ⟨rfl, g, tk, L, es, ep, t, rfl, hS, got, hk'⟩ := hr₂
            repeat (any_goals (first | assumption | wp_step))
            exact kq _ _ _ _ _ _ hS got hk'
          | _ => exact hr₂.elim
    | _ => exact hr.elim
end


def ltL : List Int → List Int → Bool
  | x :: xs, y :: ys => decide (x < y) || (decide (x = y) && ltL xs ys)
  | _, _ => false
theorem ltL_code {B : Int} : ∀ {a b : List Int}, a.length = b.length → TS.Bd B a → TS.Bd B b → (ltL a b = true ↔ TS.code B a < TS.code B b)
  | [], [], _, _, _ => by simp [ltL, TS.code]
  | [], _ :: _, h, _, _ => by simp at h
  | _ :: _, [], h, _, _ => by simp at h
  | x :: xs, y :: ys, h, ha, hb => by
    have hl : xs.length = ys.length := by simpa using h
    unfold ltL
    by_cases e : x = y
    · subst e
      rw [TS.code_same hl, ← ltL_code hl ha.tail hb.tail]
      simp
    · rcases Int.lt_trichotomy x y with z | z | z
      · simp [z, TS.code_lt hl ha.tail hb.tail z]
      · exact absurd z e
      · have := TS.code_lt hl.symm hb.tail ha.tail z
        have n : ¬ x < y := by omega
        simp [n, e]
        omega
theorem ltL_tri {a b : List Int} (h : a.length = b.length) : ltL a b = true ∨ a = b ∨ ltL b a = true := by
  induction a generalizing b with
  | nil => cases b with
    | nil => exact .inr (.inl rfl)
    | cons y ys => simp at h
  | cons x xs ih =>
    cases b with
    | nil => simp at h
    | cons y ys =>
      have hl : xs.length = ys.length := by simpa using h
      unfold ltL
      rcases Int.lt_trichotomy x y with z | z | z
      · simp [z]
      · subst z
        rcases ih hl with q | q | q
        · simp [q]
        · exact .inr (.inl (by rw [q]))
        · simp [q]
      · simp [z]
theorem ltL_irr : ∀ a : List Int, ltL a a = false
  | [] => rfl
  | x :: xs => by unfold ltL; simp [ltL_irr xs]
theorem ltL_trans : ∀ {a b c : List Int}, ltL a b = true → ltL b c = true → ltL a c = true
  | x :: xs, y :: ys, z :: zs, h, h' => by
    unfold ltL at *
    simp only [Bool.or_eq_true, Bool.and_eq_true, decide_eq_true_eq] at *
    rcases h with h | ⟨h1, h2⟩
    · rcases h' with h' | ⟨h3, h4⟩
      · exact .inl (by omega)
      · exact .inl (by omega)
    · rcases h' with h' | ⟨h3, h4⟩
      · exact .inl (by omega)
      · exact .inr ⟨by omega, ltL_trans h2 h4⟩
  | [], _, _, h, _ => by simp [ltL] at h
  | _ :: _, [], _, h, _ => by simp [ltL] at h
  | _ :: _, _ :: _, [], _, h => by simp [ltL] at h
def insU (x : List Int) : List (List Int) → List (List Int)
  | [] => [x]
  | y :: ys => if ltL x y = true then x :: y :: ys else if x = y then y :: ys else y :: insU x ys
def srtU (l : List (List Int)) : List (List Int) := l.foldr insU []
theorem ins_mem {x z : List Int} : ∀ {l : List (List Int)}, z ∈ insU x l ↔ z = x ∨ z ∈ l
  | [] => by simp [insU]
  | y :: ys => by
    unfold insU
    split
    · simp
    · split
      · rename_i e; subst e; simp
      · rw [List.mem_cons, ins_mem, List.mem_cons]
        constructor
        · rintro (h | h | h)
          · exact .inr (.inl h)
          · exact .inl h
          · exact .inr (.inr h)
        · rintro (h | h | h)
          · exact .inr (.inl h)
          · exact .inl h
          · exact .inr (.inr h)
theorem srt_mem {z : List Int} : ∀ {l : List (List Int)}, z ∈ srtU l ↔ z ∈ l
  | [] => by simp [srtU]
  | x :: l => by
    show z ∈ insU x (srtU l) ↔ _
    rw [ins_mem, srt_mem, List.mem_cons]
abbrev Inc (l : List (List Int)) : Prop := l.Pairwise fun a b => ltL a b = true
theorem ins_inc {n : Nat} {x : List Int} (hx : x.length = n) : ∀ {l : List (List Int)}, (∀ y ∈ l, y.length = n) → Inc l → Inc (insU x l)
  | [], _, _ => by simp [insU, Inc]
  | y :: ys, hl, h => by
    unfold insU
    have h1 := List.pairwise_cons.mp h
    split
    · rename_i q
      refine List.pairwise_cons.mpr ⟨fun z hz => ?_, h⟩
      rcases List.mem_cons.mp hz with rfl | hz
      · exact q
      · exact ltL_trans q (h1.1 z hz)
    · split
      · exact h
      · rename_i q q2
        have q3 : ltL y x = true := by
          rcases ltL_tri (a := x) (b := y) (by rw [hx, hl y List.mem_cons_self]) with z | z | z
          · exact absurd z q
          · exact absurd z q2
          · exact z
        refine List.pairwise_cons.mpr ⟨fun z hz => ?_, ins_inc hx (fun z hz => hl z (List.mem_cons_of_mem _ hz)) h1.2⟩
        rcases ins_mem.mp hz with rfl | hz
        · exact q3
        · exact h1.1 z hz
theorem srt_inc {n : Nat} : ∀ {l : List (List Int)}, (∀ y ∈ l, y.length = n) → Inc (srtU l)
  | [], _ => List.Pairwise.nil
  | x :: l, h => ins_inc (h x List.mem_cons_self) (fun y hy => h y (List.mem_cons_of_mem _ (srt_mem.mp hy))) (srt_inc fun y hy => h y (List.mem_cons_of_mem _ hy))
theorem inc_uniq : ∀ {a b : List (List Int)}, Inc a → Inc b → (∀ z, z ∈ a ↔ z ∈ b) → a = b
  | [], [], _, _, _ => rfl
  | [], y :: ys, _, _, h => absurd ((h y).mpr List.mem_cons_self) (by simp)
  | x :: xs, [], _, _, h => absurd ((h x).mp List.mem_cons_self) (by simp)
  | x :: xs, y :: ys, ha, hb, h => by
    have a1 := List.pairwise_cons.mp ha
    have b1 := List.pairwise_cons.mp hb
    have e : x = y := by
      rcases List.mem_cons.mp ((h x).mp List.mem_cons_self) with z | z
      · exact z
      · rcases List.mem_cons.mp ((h y).mpr List.mem_cons_self) with q | q
        · exact q.symm
        · have := ltL_trans (a1.1 y q) (b1.1 x z)
          rw [ltL_irr] at this
          cases this
    subst e
    refine congrArg (x :: ·) (inc_uniq a1.2 b1.2 fun z => ?_)
    have hz := h z
    have nx : ∀ {l : List (List Int)}, (∀ q ∈ l, ltL x q = true) → x ∉ l := fun hq hm => by
      have := hq x hm
      rw [ltL_irr] at this
      cases this
    constructor
    · intro hm
      rcases List.mem_cons.mp (hz.mp (List.mem_cons_of_mem _ hm)) with q | q
      · subst q; exact absurd hm (nx a1.1)
      · exact q
    · intro hm
      rcases List.mem_cons.mp (hz.mpr (List.mem_cons_of_mem _ hm)) with q | q
      · subst q; exact absurd hm (nx b1.1)
      · exact q
def tupL (k : List Int) : D := .tup (k.map D.int)
def intsTs : List D → Option (List (List Int))
  | [] => some []
  | .tup l :: r => (intsOf l).bind fun k => (intsTs r).map (k :: ·)
  | _ => none
theorem of_intsTs : ∀ {ds : List D} {ks : List (List Int)}, intsTs ds = some ks → ds = ks.map tupL
  | [], _, h => by cases h; rfl
  | d :: ds, ks, h => by
    cases d <;> first | (cases h; done) | skip
    rename_i l
    obtain ⟨k, h1, h2⟩ := Option.bind_eq_some_iff.mp h
    obtain ⟨kr, h3, rfl⟩ := Option.map_eq_some_iff.mp h2
    rw [List.map_cons, ← of_intsTs h3]
    unfold tupL
    rw [← of_intsOf h1]
theorem intsTs_map : ∀ ks : List (List Int), intsTs (ks.map tupL) = some ks
  | [] => rfl
  | k :: ks => by
    rw [List.map_cons]
    show (intsOf (k.map D.int)).bind _ = _
    rw [intsOf_map, Option.bind_some, intsTs_map ks]; rfl
def okSet (n : Nat) (ks : List (List Int)) : Bool := decide (1 ≤ n) && decide (ks.length < 64) && ks.all fun k => decide (k.length = n) && k.all fun m => decide (0 ≤ m) && decide (m < 65536)
def ssF (ds : List D) : Option D :=
  let go := fun l : List D => (intsTs l).bind fun ks => if okSet (ks.headD [0]).length ks = true then some (D.lst ((srtU ks).map tupL)) else none
  match ds with
  | [.lst l] => go l
  | [.tup l] => go l
  | _ => none
theorem okSet_of {n : Nat} {ks : List (List Int)} (h : okSet n ks = true) : 1 ≤ n ∧ ks.length < 64 ∧ ∀ k ∈ ks, k.length = n ∧ TS.Bd 65536 k := by
  unfold okSet at h
  simp only [Bool.and_eq_true, decide_eq_true_eq, List.all_eq_true] at h
  exact ⟨h.1.1, h.1.2, fun k hk => ⟨(h.2 k hk).1, fun m hm => (h.2 k hk).2 m hm⟩⟩
theorem addr_of {K : PySem.W.Frag} {ws : Wa} {B : Addr → Prop} {H : Hp} : ∀ {ks : List (List Int)} {vs : List V}, DRs K ws B H vs (ks.map tupL) → ∃ ps : List (Addr × List Int), vs = ps.map (fun p => V.ref p.1) ∧ ps.map (·.2) = ks ∧ ∀ p ∈ ps, Tp K B H p.1 (p.2.map V.int) ∧ p.2.length ≤ sizeLine
  | [], _, h => by cases h; exact ⟨[], rfl, rfl, by simp⟩
  | k :: ks, _, h => by
    rw [List.map_cons] at h
    cases h with
    | cons a r =>
      obtain ⟨ps, rfl, h2, h3⟩ := addr_of r
      cases a with
      | @tup b us _ z t q =>
        have e := DRs.of_ints k q
        subst e
        refine ⟨(b, k) :: ps, rfl, by rw [List.map_cons, h2], fun p hp => ?_⟩
        rcases List.mem_cons.mp hp with rfl | hp
        · exact ⟨t, by rw [List.length_map] at z; exact z⟩
        · exact h3 p hp
def rSetTT (K : PySem.W.Frag) (P : Program) (w : World) : List V → Hp → VK → Prop := fun xs H Q => ∃ (l : Addr) (ks : List (Addr × List Int)), xs = [V.ref l] ∧ SqT K H l (ks.map fun p => V.ref p.1) ∧ (∀ p ∈ ks, SqT K H p.1 (p.2.map V.int)) ∧ ks.length < 64 ∧
  ∀ a L, H a = none → (∀ p ∈ L, p ∈ ks) → (∀ p ∈ ks, p.2 ∈ L.map (·.2)) → Q (.ref a) (upd H a (SetTO P w a L))
theorem cr_setTT {X : Cx} (hc : X.calm = true) (hu : X.A.units + 64 < cLine) : CallR X (.type "set") (rSetTT X.K X.prog X.w) := by
  intro pins s σ H xs us Q I r h
  obtain ⟨l, ks, rfl, hl, hk, hf, q⟩ := h
  obtain rfl := Vals.ref1 r
  obtain ⟨its, rv, pl, hz⟩ := I.tuple hl
  have hn : H s.heap.objs.size = none := I.hok.fresh (Nat.le_refl _)
  refine call_setTT (P := X.prog) (w := X.w) ks (I.ok.hd hc) pl (by simpa using refs_of_vals rv) (fun p hp => I.isT (hk p hp)) hf (by omega) fun g tk L es ep t R got kept => ?_
  exact ⟨.ref s.heap.objs.size, upd H s.heap.objs.size (SetTO X.prog X.w s.heap.objs.size L), I.laid (t' := tk) kept (Nat.le_refl _) (setTO_new R.t0), rfl, q _ L hn (fun p hp => List.mem_of_mem_take (got.sub p hp)) fun p hp => got.all p (by rw [List.take_length]; exact hp)⟩
def rSS (K : PySem.W.Frag) (P : Program) (w : World) : List V → Hp → VK → Prop := fun xs H Q => (rSetOfT K P w xs H fun v H1 => rSortedT K P w [v] H1 Q) ∨ rSetTT K P w xs H fun v H1 => rSortedT K P w [v] H1 Q
theorem ss_go {K : PySem.W.Frag} {P : Program} {w : World} {ws : Wa} {B : Addr → Prop} {H : Hp} {Q : VK} {ks : List (Addr × List Int)} {n : Nat} (hb : ∀ a, B a → H a ≠ none) (ht : ∀ p ∈ ks, Tp K B H p.1 (p.2.map V.int) ∧ p.2.length ≤ sizeLine) (ho : okSet n (ks.map (·.2)) = true)
    (q : ∀ v H', Grow H H' → DR K ws B H' v (.lst ((srtU (ks.map (·.2))).map tupL)) → Q v H') (a : Addr) (L : List (Addr × List Int)) (hn : H a = none) (h1 : ∀ p ∈ L, p ∈ ks) (h2 : ∀ p ∈ ks, p.2 ∈ L.map (·.2)) : rSortedT K P w [V.ref a] (upd H a (SetTO P w a L)) Q := by
  obtain ⟨n1, n2, n3⟩ := okSet_of ho
  have g1 : Grow H (upd H a (SetTO P w a L)) := Grow.new hn
  have b3 : ∀ p ∈ L, p.2.length = n ∧ TS.Bd 65536 p.2 := fun p hp => n3 p.2 (List.mem_map.mpr ⟨p, h1 p hp, rfl⟩)
  have tp1 : ∀ p ∈ ks, Tp K B (upd H a (SetTO P w a L)) p.1 (p.2.map V.int) := fun p hp => (ht p hp).1.keep (fun b o e _ => by
    by_cases z : b = a
    · subst z; rw [hn] at e; cases e
    · rw [upd_ne z]; exact e) fun b hb => .inl hb
  refine ⟨a, L, n, 65536, rfl, upd_same, fun p hp => (tp1 p (h1 p hp)).sq, n1, b3, fun L' p pm nd few pw hp => ?_⟩
  have g2 : Grow (upd H a (SetTO P w a L)) (upd (upd H a (SetTO P w a L)) p (.lst (L'.map fun q => V.ref q.1))) := Grow.new hp
  have sub : ∀ q ∈ L', q ∈ ks := fun q hq => h1 q (pm.mem_iff.mp hq)
  have b4 : ∀ q ∈ L', q.2.length = n ∧ TS.Bd 65536 q.2 := fun q hq => b3 q (pm.mem_iff.mp hq)
  have eL : L'.map (·.2) = srtU (ks.map (·.2)) := by
    refine inc_uniq ?_ (srt_inc fun y hy => (n3 y hy).1) fun z => ?_
    · refine List.pairwise_map.mpr ?_
      have nd' := List.pairwise_map.mp nd
      refine (pw.and nd').imp_of_mem fun {x y} hx hy ⟨c1, c2⟩ => ?_
      obtain ⟨x1, x2⟩ := b4 x hx
      obtain ⟨y1, y2⟩ := b4 y hy
      rcases ltL_tri (a := x.2) (b := y.2) (by rw [x1, y1]) with z | z | z
      · exact z
      · exact absurd z c2
      · have := (ltL_code (by rw [x1, y1]) y2 x2).mp z
        omega
    · rw [srt_mem]
      constructor
      · intro hz
        obtain ⟨x, hx, rfl⟩ := List.mem_map.mp hz
        exact List.mem_map.mpr ⟨x, sub x hx, rfl⟩
      · intro hz
        obtain ⟨x, hx, rfl⟩ := List.mem_map.mp hz
        obtain ⟨y, hy, e⟩ := List.mem_map.mp (h2 x hx)
        exact List.mem_map.mpr ⟨y, pm.mem_iff.mpr hy, e⟩
  have hb2 : ∀ b, B b → upd H a (SetTO P w a L) b ≠ none := fun b hB z => by
    by_cases e : b = a
    · subst e; exact hb b hB hn
    · rw [upd_ne e] at z; exact hb b hB z
  refine q _ _ (g1.trans g2) ?_
  rw [← eL, List.map_map]
  refine .lst (by rw [List.length_map, sizeLine_eq]; omega) (fun z => hb2 p z hp) upd_same ?_
  have all : ∀ l : List (Addr × List Int), (∀ q ∈ l, q ∈ L') → DRs K ws B (upd (upd H a (SetTO P w a L)) p (.lst (L'.map fun q => V.ref q.1))) (l.map fun q => V.ref q.1) (l.map (tupL ∘ (·.2))) := by
    intro l
    induction l with
    | nil => intro _; exact .nil
    | cons x l ih =>
      intro hl
      refine .cons ?_ (ih fun q hq => hl q (List.mem_cons_of_mem _ hq))
      have hx := sub x (hl x List.mem_cons_self)
      have tx := (tp1 x hx).keep (H' := upd (upd H a (SetTO P w a L)) p (.lst (L'.map fun q => V.ref q.1))) (B' := B) (fun b o e _ => by
        by_cases z : b = p
        · subst z; rw [hp] at e; cases e
        · rw [upd_ne z]; exact e) fun b hb => .inl hb
      exact .tup (by rw [List.length_map]; exact (ht x hx).2) tx (DRs.ints _)
  exact all L' fun q hq => hq

theorem cs_SS {K : PySem.W.Frag} {P : Program} {w : World} : CallS K (rSS K P w) ssF := by
  intro ws B H xs ds d Q hb hx ho q
  unfold ssF at ho
  dsimp only at ho
  split at ho
  · rename_i l
    obtain ⟨v, rfl, hv⟩ := one_of hx
    obtain ⟨kss, h1, h2⟩ := Option.bind_eq_some_iff.mp ho
    split at h2
    · rename_i hok
      cases h2
      obtain rfl := of_intsTs h1
      obtain ⟨z, a, vs, rfl, ha, ra⟩ := hv
      obtain ⟨ps, rfl, rfl, h3⟩ := addr_of ra
      have hl := (okSet_of hok).2.1
      rw [List.length_map] at hl
      exact .inl ⟨a, ps, rfl, .inl (.inl ha), fun p hp => (h3 p hp).1.sq, hl, fun A L hn q1 q2 => ss_go hb h3 hok q A L hn q1 q2⟩
    · cases h2
  · rename_i l
    obtain ⟨v, rfl, hv⟩ := one_of hx
    obtain ⟨kss, h1, h2⟩ := Option.bind_eq_some_iff.mp ho
    split at h2
    · rename_i hok
      cases h2
      obtain rfl := of_intsTs h1
      obtain ⟨z, a, vs, rfl, ha, ra⟩ := hv
      obtain ⟨ps, rfl, rfl, h3⟩ := addr_of ra
      have hl := (okSet_of hok).2.1
      rw [List.length_map] at hl
      exact .inr ⟨a, ps, rfl, ha.sq, fun p hp => (h3 p hp).1.sq, hl, fun A L hn q1 q2 => ss_go hb h3 hok q A L hn q1 q2⟩
    · cases h2
  · cases ho
theorem ct_SS : CallT ssF := fun ds d h => by
  unfold ssF at h
  dsimp only at h
  split at h <;> first | rfl | cases h
theorem m_sortSet {X : Cx} {Wx : WX} {a : Expr} {pos p p2 q : Pos} {g : An} (hc : X.calm = true) (hu : X.A.units + 64 < cLine) (ha : PArm X Wx [a] g) (hm : X.mg "sorted" = none) (hm2 : X.mg "set" = none) (hg : Gl X "sorted" := by rfl) (hg2 : Gl X "set" := by rfl) (he : starEach [a] X.env = (false, eval a X.env) :: starEach [] X.env := by rfl) :
    PEm X Wx (.Call (.Name "sorted" p) [.Call (.Name "set" p2) [a] [] q] [] pos) (fun sl => fCB ssF (g sl)) := by
  have h1 := pe_callTy (pos := q) (p := p2) ((cr_setOfT hc hu).or (cr_setTT hc hu)) hg2 hm2 (by decide +kernel) ha (by decide) (by decide) he rfl
  refine (pe_callB (cr_sortedT hc) hg hm (by decide +kernel) (pa_cons h1 pa_nil rfl) (by decide) (by decide) rfl rfl).mimp fun σ H Q h => ?_
  exact fCB_go (cs_SS (P := X.prog) (w := X.w)) ct_SS σ H Q h
end Pm
namespace Pm
open PySem PySem.Spec PyProof.Rows L2


section
variable {X : Cx} {Wx : WX} {i ja jb : Nat} {x y z : Str} {px py pz ps pn p2 pt pos : Pos} {kt k2 : Nat}
end
end Pm
namespace Pm
open PySem PySem.Spec PyProof.Rows L2 RZ


section
variable {X : Cx} {Wx : WX} {ke ve : Expr} {pos : Pos} {f g : Dn}
end
end Pm
namespace Pm
open PySem PySem.Spec PyProof.Rows L2 RZ


def allG (ks : List (List L2.Key)) (d : D) : List (List L2.Key × D) := ks.foldl (fun acc k => putG acc k d) []
def allK (ks : List (List L2.Key)) (v : V) : List (List L2.Key × V) := ks.foldl (fun acc k => putK acc k v) []
theorem KRG.all {K : PySem.W.Frag} {ws : Wa} {B : Addr → Prop} {H : Hp} {v : V} {d : D} (hd : DR K ws B H v d) (ks : List (List L2.Key)) : KRG K ws B H (allK ks v) (allG ks d) := by
  unfold allK allG
  suffices h : ∀ (a : List (List L2.Key × V)) (b : List (List L2.Key × D)), KRG K ws B H a b → KRG K ws B H (ks.foldl (fun acc k => putK acc k v) a) (ks.foldl (fun acc k => putG acc k d) b) from h [] [] ⟨rfl, .nil⟩
  induction ks with
  | nil => exact fun _ _ h => h
  | cons k ks ih => exact fun a b h => ih _ _ (h.put hd)
section
variable {X : Cx} {Wx : WX} {kx vx tg iter : Expr} {scope : Scope} {y : Str} {pos : Pos} {f : Dn} {i j : Nat}
end
end Pm
namespace Pm
open PySem PySem.Spec PyProof.Rows L2 RZ


section
variable {X : Cx} {Wx : WX} {o e : Expr} {pos np apos cpos : Pos} {x : Str} {i : Nat} {f : Dn}
end
end Pm
namespace Pm
open PySem PySem.Spec PyProof.Rows L2


section
variable {P : Program} {w : World} {A : Around} {E : Value → Shared → Prop} {s : Shared}
end
def insI (x : Int) : List Int → List Int
  | [] => [x]
  | y :: r => if x < y then x :: y :: r else if x = y then y :: r else y :: insI x r
def srtI (l : List Int) : List Int := l.foldr insI []
theorem insI_mem {x z : Int} : ∀ {l : List Int}, z ∈ insI x l ↔ z = x ∨ z ∈ l
  | [] => by simp [insI]
  | y :: r => by
    unfold insI
    split
    · simp
    · split
      · rename_i h; simp [h]
      · simp only [List.mem_cons, insI_mem]
        constructor
        · rintro (h | h | h)
          · exact .inr (.inl h)
          · exact .inl h
          · exact .inr (.inr h)
        · rintro (h | h | h)
          · exact .inr (.inl h)
          · exact .inl h
          · exact .inr (.inr h)
theorem insI_inc {x : Int} : ∀ {l : List Int}, l.Pairwise (· < ·) → (insI x l).Pairwise (· < ·)
  | [], _ => by simp [insI]
  | y :: r, h => by
    obtain ⟨h1, h2⟩ := List.pairwise_cons.mp h
    unfold insI
    split
    · rename_i q
      refine List.pairwise_cons.mpr ⟨fun z hz => ?_, h⟩
      rcases List.mem_cons.mp hz with e | e
      · rw [e]; exact q
      · have := h1 z e; omega
    · split
      · exact h
      · rename_i q1 q2
        refine List.pairwise_cons.mpr ⟨fun z hz => ?_, insI_inc h2⟩
        rcases insI_mem.mp hz with e | e
        · rw [e]; omega
        · exact h1 z e
theorem srtI_mem {z : Int} : ∀ {l : List Int}, z ∈ srtI l ↔ z ∈ l
  | [] => by simp [srtI]
  | x :: l => by
    show z ∈ insI x (srtI l) ↔ _
    rw [insI_mem, srtI_mem, List.mem_cons]
theorem srtI_inc : ∀ (l : List Int), (srtI l).Pairwise (· < ·)
  | [] => List.Pairwise.nil
  | x :: l => insI_inc (srtI_inc l)
theorem intsV : ∀ (is : List Int), (is.map fun i => kV (.inl i)) = is.map V.int
  | [] => rfl
  | i :: is => by rw [List.map_cons, List.map_cons, intsV is]; rfl
end Pm
namespace Pm
open PySem PySem.Spec PyProof.Rows L2


section
variable {prog : Program} {w : World} {A : Around} {E : Value → Shared → Prop} {s : Shared}
end
end Pm
namespace Pm
open PySem PySem.Spec PyProof.Rows L2 RZ


section
variable {n : Nat}
section
variable {K : PySem.W.Frag}
end
section
variable {X : Cx} {Wx : WX} {ke ve : Expr} {pos : Pos} {f g : Dn}
end
end
end Pm
namespace Pm
open PySem PySem.Spec PyProof.Rows L2 RZ PpSet


theorem setT_add {P : Program} {w : World} {A : Around} {E : Value → Shared → Prop} {s : Shared} {a x : Addr} {k : List Int} {L : List (Addr × List Int)} {es : Array (Int × Value)} {ep : Nat} {t : SetTable} {Q : Value → Shared → Prop}
    (R : SetTR P w s.heap a L es ep t) (hx : IsT P w s.heap k x) (hu : A.units + 64 < cLine) (hfew : L.length + 1 < 64)
    (hQ : ∀ h' L' es' ep' t', Heap.SameBut a s.heap h' → SetTR P w h' a L' es' ep' t' → (k ∈ L.map (·.2) → L' = L) → (k ∉ L.map (·.2) → L'.Perm ((x, k) :: L)) → Q .none { s with heap := h', toks := s.toks + (k.length + 1) }) :
    wpAny (model P w) A (call (.builtin "set.add") [.ref a, .ref x]) Q E s := by
  obtain ⟨o, ho, hex, _⟩ := R.ob
  have ty : s.TypeIs (.ref a) "set" := ⟨o, ho, hex.1⟩
  refine wpAny_call_entry F.slot_set_add ty F.entry_set_add ?_ (F.args_set_add_2 _ _)
  unfold Builtin.«set.add» Builtin.Frozenset.oneOther
  simp only [List.isEmpty_nil, bind_assoc]
  unfold Builtin.Frozenset.addrOf setAdd
  refine wpAny_bind (wpAny_pure ?_)
  try dsimp only
  refine wpAny_bind (wpAny_holding ?_)
  refine wpAny_bind (wpAny_pyHash_tuple (by show _ < cLine; first | omega | (simp; omega)) hx ?_)
  refine add_at (s := { s with toks := s.toks + (k.length + 1) }) R hx (by show _ < cLine; first | omega | (simp; omega)) hfew fun b h' L' es' ep' t' sb r c1 c2 => ?_
  show wpAny _ _ (ret Value.none) _ _ _
  exact wpAny_pure ⟨_, rfl, hQ h' L' es' ep' t' sb r c1 c2⟩
section
variable {X : Cx}
theorem addT_ok {pins : List (Addr × Obj)} {σ : L2.St} {H : Hp} {s : Shared} {E : Value → Shared → Prop} {D x : Addr} {k : List Int} {L : List (Addr × List Int)} {Q : Value → Shared → Prop} (I : Inv X pins σ H s) (hD : H D = some (SetTO X.prog X.w D L)) (ht : ∀ p ∈ L, SqT X.K H p.1 (p.2.map V.int)) (hx : SqT X.K H x (k.map V.int))
    (hu : X.A.units + 64 < cLine) (hfew : L.length + 1 < 64) (h : ∀ s' L', (k ∈ L.map (·.2) → L' = L) → (k ∉ L.map (·.2) → L'.Perm ((x, k) :: L)) → Inv X pins σ (upd H D (SetTO X.prog X.w D L')) s' → Q .none s') : wpAny (model X.prog X.w) X.A (call (.builtin "set.add") [.ref D, .ref x]) Q E s := by
  have R0 : SetT0 X.prog X.w s.heap D L := (I.hok D _ hD).1
  obtain ⟨es, ep, t, R⟩ := R0.full fun p hp => I.isT (ht p hp)
  refine setT_add R (I.isT hx) hu hfew fun h' L' es' ep' t' sb R' c1 c2 => h _ L' c1 c2 ?_
  have he : ∃ u, h'.get? D = some u := let ⟨o, ho, _⟩ := R'.ob; ⟨o, ho⟩
  exact I.write (e := D) (t' := s.toks + (k.length + 1)) (by rw [hD]; trivial) (.inl rfl) (fun b u hb hu => (sb.2 b hb).trans hu) he (setTO_new R'.t0)
def endS (P : Program) (wl : World) (K : PySem.W.Frag) (D : Addr) (Nx : Hp → Prop) (y : V) (H4 : Hp) : Prop :=
  ∃ b k L od, y = V.ref b ∧ H4 D = some (.frz od (SetTO P wl D L)) ∧ SqT K H4 b (k.map V.int) ∧ (∀ p ∈ L, SqT K H4 p.1 (p.2.map V.int)) ∧ L.length + 1 < 64 ∧
    ∀ (L' : List (Addr × List Int)) (od' : Obj), (k ∈ L.map (·.2) → L' = L) → (k ∉ L.map (·.2) → L'.Perm ((b, k) :: L)) → Nx (upd H4 D (.frz od' (SetTO P wl D L')))
def stepS (P : Program) (wl : World) (K : PySem.W.Frag) (g : TG) (te : TE) (vs : List Nat) (σ : L2.St) (D : Addr) (x : V) (H : Hp) (Nx : Hp → Prop) : Prop := g x (wipe σ vs) H fun σ2 H2 => wipe σ2 vs = wipe σ vs ∧ te σ2 H2 (endS P wl K D Nx)
def tScS (P : Program) (wl : World) (K : PySem.W.Frag) (wi : TI) (g : TG) (te : TE) (vs : List Nat) : TE := fun σ H Q => wi σ H fun J H1 => ∀ D od, H1 D = none → ∃ W : Nat → Nat → Hp → Prop, (∃ m, W 0 m (upd H1 D (.frz od (SetTO P wl D [])))) ∧ ∀ i m H, W i m H →
  (J.stop i H ∧ ∃ L od, H D = some (.frz od (SetTO P wl D L)) ∧ Q (.ref D) (upd H D (SetTO P wl D L))) ∨ (J.go i H ∧ ∃ Nx : Hp → Prop, (∀ H', Nx H' → ∃ m', m' < m ∧ W (i + 1) m' H') ∧ ∀ x H', J.yld i H x H' → stepS P wl K g te vs σ D x H' Nx)
theorem sqT_upd {K : PySem.W.Frag} {H : Hp} {D b : Addr} {o : HO} {od : Obj} {φ : Heap → Prop} {xs : List V} (hD : H D = some (.frz od (.ext φ))) (h : SqT K H b xs) : SqT K (upd H D o) b xs := by
  rcases h with h | h
  · rcases h with h | ⟨od', h⟩
    · exact .inl (.inl (by rw [upd_ne (fun z => by rw [z, hD] at h; cases h)]; exact h))
    · exact .inl (.inr ⟨od', by rw [upd_ne (fun z => by rw [z, hD] at h; cases h)]; exact h⟩)
  · exact .inr h
theorem pe_scS {elt tg iter : Expr} {scope : Scope} {own : List (Str × Nat)} {pos : Pos} {wi : TI} {g : TG} {te : TE} (hc : X.calm = true) (hu : X.A.units + 64 < cLine) (hN : X.N.Nodup) (hi : PI X tg iter wi) (ok : BlkOk X.N X.env.scope scope own)
    (hg : ∀ (s : Shared) (H : Hp) (C : Addr) (cl : List (Str × Addr)) (fp : List Addr), PG (X.blk s H scope (compEnvC scope cl C X.env) fp) tg g)
    (he : ∀ (s : Shared) (H : Hp) (C : Addr) (cl : List (Str × Addr)) (fp : List Addr), PE (X.blk s H scope (compEnvC scope cl C X.env) fp) elt te) (hs : ∀ x, foldedSetIterable iter X.env x = pure x := by intro _; rfl) :
    PE X (.SetComp elt [⟨tg, iter, [], 0⟩] scope pos) (tScS X.prog X.w X.K wi g te (own.map (·.2))) := by
  refine ⟨fun pins s σ H Q I h => ?_⟩
  rw [eval_SetComp]
  have hfree : ∀ y ∈ scope.names, y.2 = .free → ∃ c, X.env.cells.lookup y.1 = some c := fun y hy e => I.ok.has _ (by
    rcases ok.free y hy e with k | k
    · exact .inl k
    · exact .inr k)
  refine wpAny_comprehension_free rfl hs (closure_ok hfree) ok.kind (fun y hy e => by rw [ok.uniq y hy, e]) (thn (hi.run pins s σ H _ I h) fun xv s1 hx => thn hx fun itv s2 ⟨it, fp, tn, J, H2, e, I2, T, st2, f2, q⟩ => ?_)
  subst e
  refine newSet_ok (newEnv_comp ?_)
  have hDn : H2 s2.heap.objs.size = none := I2.hok.fresh (Nat.le_refl _)
  generalize hnew : ({ cls := .type "set", dict := none, data := .set #[] 0 (.fresh 0 0 (!X.w.params.followText "set-order")) } : Obj) = onew
  have I3 : Inv X pins σ (upd H2 s2.heap.objs.size (SetTO X.prog X.w s2.heap.objs.size [])) { s2 with heap := s2.heap.push onew } :=
    I2.laid (t' := s2.toks) (fun b o e => Heap.get?_push_of_some _ e) (Nat.le_refl _) (setTO_new (setTR_fresh (by rw [← hnew]; exact Heap.get?_push_size _ rfl)).t0)
  have h3 : ({ s2 with heap := s2.heap.push onew } : Shared).heap = s2.heap.push onew := rfl
  have f3 : ∀ b ∈ fp, FpOk X pins (upd H2 s2.heap.objs.size (SetTO X.prog X.w s2.heap.objs.size [])) b ∧ b < ({ s2 with heap := s2.heap.push onew } : Shared).heap.objs.size := fun b hb => by
    obtain ⟨o, eo, _⟩ := T.obj _ _ st2 b hb
    have hlt := Heap.lt_size eo
    refine ⟨⟨?_, (f2 b hb).2⟩, by rw [h3, Heap.size_push]; exact Nat.lt_succ_of_lt hlt⟩
    rw [upd_ne (Nat.ne_of_lt hlt)]
    exact (f2 b hb).1
  have st3 : tn 0 ({ s2 with heap := s2.heap.push onew } : Shared).heap := T.keep _ _ _ st2 fun b _ o e => by rw [h3]; exact Heap.get?_push_of_some _ e
  generalize s2.heap.objs.size = D at hDn I3 f3 ⊢
  generalize ({ s2 with heap := s2.heap.push onew } : Shared) = s3 at I3 f3 st3 ⊢
  clear h3 hnew
  have I4 := block_start I3 ok hN f3
  have pg := hg s3 (upd H2 D (SetTO X.prog X.w D [])) s3.heap.objs.size (cellsFrom (s3.heap.objs.size + 1) scope.names (cloFrom X.env.cells scope.names [])) fp
  have pv := he s3 (upd H2 D (SetTO X.prog X.w D [])) s3.heap.objs.size (cellsFrom (s3.heap.objs.size + 1) scope.names (cloFrom X.env.cells scope.names [])) fp
  have nfp : ∀ b ∈ fp, (upd H2 D (SetTO X.prog X.w D [])) b = none := fun b hb => (f3 b hb).1.1
  show codeAny _ _ (.compStart (.SetComp elt [⟨tg, iter, [], 0⟩] scope pos) 0 (.ref it) (.ref D) (compEnvC scope (cellsFrom (s3.heap.objs.size + 1) scope.names (cloFrom X.env.cells scope.names [])) s3.heap.objs.size X.env)) _ { s3 with heap := pushCells (s3.heap.push { cls := .type "dict", data := .dict #[] }) scope.names }
  generalize hce : compEnvC scope (cellsFrom (s3.heap.objs.size + 1) scope.names (cloFrom X.env.cells scope.names [])) s3.heap.objs.size X.env = ce at I4 pg pv ⊢
  have cL : ce.locals = s3.heap.objs.size := by subst hce; rfl
  have hD3 : (upd H2 D (SetTO X.prog X.w D [])) D = some (SetTO X.prog X.w D []) := upd_same
  have up0 : ∀ o, upd (upd H2 D (SetTO X.prog X.w D [])) D o = upd H2 D o := fun o => upd_upd
  generalize upd H2 D (SetTO X.prog X.w D []) = H3 at I3 I4 pg pv nfp f3 hD3 up0
  have st4 : tn 0 ({ s3 with heap := pushCells (s3.heap.push { cls := .type "dict", data := .dict #[] }) scope.names } : Shared).heap := T.keep _ _ _ st3 fun b _ o e => pushCells_keeps _ _ _ _ (Heap.get?_push_of_some _ e)
  generalize ({ s3 with heap := pushCells (s3.heap.push { cls := .type "dict", data := .dict #[] }) scope.names } : Shared) = s4 at I4 st4 ⊢
  have nDf : ∀ b ∈ fp, b ≠ D := fun b hb z => by have := nfp b hb; rw [z, hD3] at this; cases this
  have unf := I4.nofrz hD3 True.intro
  obtain ⟨od0, I40⟩ := I4.lock hD3 True.intro
  rw [up0] at I40
  obtain ⟨W, ⟨m0, w0⟩, turn⟩ := q D od0 hDn
  have nfp0 : ∀ b ∈ fp, (upd H2 D (.frz od0 (SetTO X.prog X.w D []))) b = none := fun b hb => by
    rw [← up0, upd_ne (nDf b hb)]; exact nfp b hb
  have stat : ∀ {σ' : L2.St} {H' : Hp} {s' : Shared}, Inv (X.blk s3 H3 scope ce fp) [] σ' H' s' → (∀ b ∈ fp, H' b = none) → ∀ b ∈ fp, FpOk (X.blk s3 H3 scope ce fp) [] H' b := fun {σ' H' s'} I' hn b hb =>
    ⟨hn b hb, (I'.ok.exf b hb).1, I'.ok.exfs b hb, .inl hb, fun x c e => (I'.ok.exf b hb).2 x c e, fun p hp => absurd (show p ∈ ([] : List (Addr × Obj)) ++ [] from hp) (by simp)⟩
  refine codeAny_compStart_set ?loop (T.self X.A 0 _ _ _ st4 ?loop)
  refine compLoopS_any (fun n s' => ∃ i H', Inv (X.blk s3 H3 scope ce fp) [] (wipe σ (own.map (·.2))) H' s' ∧ tn i s'.heap ∧ (∀ b ∈ fp, H' b = none) ∧ W i n H') ?_ m0 ⟨0, _, I40, st4, nfp0, w0⟩
  rintro n s5 ⟨i, H5, I5, st5, n5, w5⟩
  rcases turn i n H5 w5 with ⟨stop, L5, od5, hD5, qq⟩ | ⟨go, Nx, hNx, step⟩
  · refine thnF (T.done (X.blk s3 H3 scope ce fp) rfl rfl rfl hc i [] s5 _ H5 (fun _ _ => False) I5 (stat I5 n5) st5 stop) fun r s6 ⟨hr, I60⟩ => ?_
    subst hr
    have I6 := I60.unlock hD5 unf
    generalize upd H5 D (SetTO X.prog X.w D L5) = H6 at I6 qq
    have I7 : Inv X pins σ H6 s6 := I3.call' (ch := fp) I6.os I6.base I6.hok I6.bare fun b hb => ⟨(f3 b hb).1.2.2.2.1, (f3 b hb).1.2.1, (f3 b hb).1.2.2.2.2.1, (f3 b hb).1.2.2.2.2.2⟩
    have nC : H6 s3.heap.objs.size = none := by rw [← cL]; exact I6.free
    obtain ⟨m, hn, _⟩ := I6.loc
    have hn : s6.heap.Ns ce.locals m := hn
    rw [cL] at hn
    obtain ⟨f0, f1, f2, f3, f4, f5⟩ := I3.fpOk (Nat.le_refl s3.heap.objs.size) nC
    exact ⟨m, hn, fun h'' sb => ⟨.ref D, H6, I7.turned (t' := s6.toks) (fun b o hb e => (sb.2 b hb).trans e) f0 f1 f3 f4 f5, rfl, qq⟩⟩
  · refine thnF (T.item (X.blk s3 H3 scope ce fp) rfl rfl rfl hc i [] s5 _ H5 (fun _ _ => False) I5 (stat I5 n5) st5 go) fun r s6 ⟨u, hr, h6⟩ => ?_
    subst hr
    refine thnF h6 fun _ s7 ⟨x, H7, I7, r7, y7, st7, n7⟩ => ?_
    have I7' := I7.pinned (stat I7 n7) (T.obj _ _ st7)
    refine thnF (pg.run _ s7 _ H7 x u _ I7' r7 (step x H7 y7)) fun _ s8 ⟨σ8, H8, I8, hw8, q8⟩ => ?_
    refine thnF ((pts_yes (X := X.blk s3 H3 scope ce fp)).run _ s8 σ8 H8 (fun b H' => b = true ∧ te σ8 H' (endS X.prog X.w X.K D Nx)) I8 ⟨rfl, q8⟩) fun b s9 ⟨H9, I9, hb9, q9⟩ => ?_
    subst hb9
    simp only [if_true]
    refine thnF (pv.run _ s9 σ8 H9 _ I9 q9) fun z2 s11 ⟨yv, H11, I11, r11, kb, k, L, od, ek, hD11, hb11, ht11, hz11, nx⟩ => ?_
    subst ek
    obtain rfl : z2 = Value.ref kb := r11
    refine addT_ok (X := X.blk s3 H3 scope ce fp) (L := L) (I11.unlock hD11 unf) upd_same (fun p hp => sqT_upd hD11 (ht11 p hp)) (sqT_upd hD11 hb11) hu hz11 fun s12 L' c1 c2 I12 => ?_
    rw [upd_upd] at I12
    obtain ⟨od', I12⟩ := I12.lock upd_same True.intro
    rw [upd_upd] at I12
    obtain ⟨m', hm, w'⟩ := hNx _ (nx L' od' c1 c2)
    have pin' : ∀ b ∈ fp, ∀ o, s7.heap.get? b = some o → s12.heap.get? b = some o ∧ (upd H11 D (.frz od' (SetTO X.prog X.w D L'))) b = none := fun b hb o e =>
      let z := I12.pin (b, o) (List.mem_append_right _ (List.mem_append_right _ (mem_pinsAt hb e)))
      ⟨z.1, z.2.1⟩
    have hl : (wipe σ (own.map (·.2))).length = σ8.length := by rw [← hw8, wipe_length]
    refine ⟨m', hm, i + 1, _, (I12.unpinned (pins := [])).weak hl (fun j v e => ?_), T.keep _ _ _ st7 fun b hb o e => (pin' b hb o e).1, fun b hb => ?_, w'⟩
    · rw [← hw8] at e
      exact (wipe_some e).1
    · obtain ⟨o, e, _⟩ := T.obj _ _ st7 b hb
      exact (pin' b hb o e).2
end
end Pm
namespace Pm
open PySem PySem.Spec PyProof.Rows L2 RZ


def addS (es : List (List Int)) (d : D) : Option (List (List Int)) := match d with
  | .tup ds => (intsD ds).bind fun k => if es.length + 1 < 64 then some (if k ∈ es then es else es ++ [k]) else none
  | _ => none
def fScM (f : D → M D) : List D → List (List Int) → M (List (List Int))
  | [], es => M.pure es
  | x :: xs, es => (noEx (f x)).bind fun d => (M.opt (addS es d)).bind fun es' => fScM f xs es'
def cod4 (k : List Int) : Int := TS.code 256 k
def ok4 (k : List Int) : Bool := decide (k.length = 4) && k.all fun n => decide (0 ≤ n ∧ n < 256)
def srt4 (es : List (List Int)) : List (List Int) := es.mergeSort fun a b => decide (cod4 a ≤ cod4 b)
def out4 (es : List (List Int)) : Option D := if es.all ok4 ∧ es.Nodup ∧ es.length < 64 then some (.lst ((srt4 es).map fun k => .tup (k.map D.int))) else none
def fSsc (items : M (List D)) (f : D → M D) : M D := items.bind fun l => (fScM f l []).bind fun es => M.opt (out4 es)
theorem cod4_inj {a b : List Int} (ha : ok4 a = true) (hb : ok4 b = true) (h : cod4 a = cod4 b) : a = b := by
  unfold ok4 at ha hb
  rw [Bool.and_eq_true, decide_eq_true_eq, List.all_eq_true] at ha hb
  obtain ⟨a1, a2⟩ := ha
  obtain ⟨b1, b2⟩ := hb
  match a, a1, a2, b, b1, b2, h with
  | [x, y, z, u], _, a2, [x', y', z', u'], _, b2, h =>
    have q := fun n hn => of_decide_eq_true (a2 n hn)
    have r := fun n hn => of_decide_eq_true (b2 n hn)
    have q1 := q x (by simp)
    have q2 := q y (by simp)
    have q3 := q z (by simp)
    have q4 := q u (by simp)
    have r1 := r x' (by simp)
    have r2 := r y' (by simp)
    have r3 := r z' (by simp)
    have r4 := r u' (by simp)
    have e : ∀ x y z u : Int, cod4 [x, y, z, u] = x * 16777216 + (y * 65536 + (z * 256 + (u * 1 + 0))) := fun x y z u => by
      show x * 256 ^ 3 + (y * 256 ^ 2 + (z * 256 ^ 1 + (u * 256 ^ 0 + 0))) = _
      rw [show (256 : Int) ^ 3 = 16777216 by decide, show (256 : Int) ^ 2 = 65536 by decide, show (256 : Int) ^ 1 = 256 by decide, show (256 : Int) ^ 0 = 1 by decide]
    rw [e, e] at h
    obtain rfl : x = x' := by omega
    obtain rfl : y = y' := by omega
    obtain rfl : z = z' := by omega
    obtain rfl : u = u' := by omega
    rfl
theorem scM_noex {f : D → M D} : ∀ {l : List D} {es : List (List Int)} {w w' : W} {c : Str}, fScM f l es w ≠ .ex c w'
  | [], es, w, w', c, h => by cases h
  | x :: xs, es, w, w', c, h => by
    unfold fScM M.bind at h
    cases q : noEx (f x) w with
    | ex c w1 => exact noEx_ex q
    | bad => rw [q] at h; cases h
    | ok a w1 =>
      rw [q] at h
      simp only at h
      cases q2 : addS es a with
      | none => rw [q2] at h; cases h
      | some es' => rw [q2] at h; exact scM_noex h
def TL (K : PySem.W.Frag) (ws : Wa) (B : Addr → Prop) (H : Hp) (L : List (Addr × List Int)) : Prop := DRs K ws B H (L.map fun p => V.ref p.1) (L.map fun p => D.tup (p.2.map D.int))
section
variable {K : PySem.W.Frag} {ws ws' : Wa} {B B' : Addr → Prop} {H H' : Hp}
theorem TL.mem : ∀ {L : List (Addr × List Int)}, TL K ws B H L → ∀ p ∈ L, DR K ws B H (.ref p.1) (.tup (p.2.map D.int))
  | [], _, p, hp => by cases hp
  | q :: L, h, p, hp => by
    unfold TL at h
    rw [List.map_cons, List.map_cons] at h
    cases h with
    | cons a b =>
      rcases List.mem_cons.mp hp with rfl | hp
      · exact a
      · exact TL.mem b p hp
theorem TL.of : ∀ {L : List (Addr × List Int)}, (∀ p ∈ L, DR K ws B H (.ref p.1) (.tup (p.2.map D.int))) → TL K ws B H L
  | [], _ => .nil
  | q :: L, h => .cons (h q List.mem_cons_self) (TL.of fun p hp => h p (List.mem_cons_of_mem _ hp))
theorem sqT_ints {b : Addr} {k : List Int} (h : DR K ws B H (.ref b) (.tup (k.map D.int))) : SqT K H b (k.map V.int) := by
  cases h with
  | tup z t r =>
    have e := drs_ints r
    rw [intsV] at e
    subst e
    exact t.sq
end
section
variable (P : Program) (wl : World) (K : PySem.W.Frag) (B' : Addr → Prop) (D0 : Addr) (sl : Ls) (σ : L2.St) (ws0 : Wa) (O0 : Addr → Prop) (H0 : Hp)
structure CSt (ws : Wa) (w : W) (es : List (List Int)) (H : Hp) : Prop where
  le : Le ws0 O0 H0 ws (Own sl σ) H
  env : Env K ws B' sl w σ H
  nD : ¬ ws.has D0
  acc : ∃ L od, H D0 = some (.frz od (SetTO P wl D0 L)) ∧ (L.map (·.2)).Perm es ∧ TL K ws (Bad ws B' sl σ) H L
end
section
variable {P : Program} {wl : World} {K : PySem.W.Frag} {mg : Str → Option Value} {B' : Addr → Prop} {D0 : Addr} {sl sl2 : Ls} {σ σ2 : L2.St} {ws0 ws ws2 : Wa} {O0 : Addr → Prop} {H0 H H2 : Hp} {w w2 : W} {es es2 : List (List Int)} {vs ts : List Nat} {p : Gk}
theorem CSt.grow {H' : Hp} (g : Grow H H') (c : CSt P wl K B' D0 sl σ ws0 O0 H0 ws w es H) : CSt P wl K B' D0 sl σ ws0 O0 H0 ws w es H' :=
  ⟨c.le.trans (g.le _ _), c.env.grow g, c.nD, let ⟨L, od, h1, h2, h3⟩ := c.acc; ⟨L, od, g _ _ h1, h2, DRs.grow g h3⟩⟩
theorem CSt.nO (hBD : B' D0) (c : CSt P wl K B' D0 sl σ ws0 O0 H0 ws w es H) : ¬ Own sl σ D0 := fun ⟨j, dj, z1, z2⟩ => by
  obtain ⟨a, y1, y2, y3, y4⟩ := c.env.ow j dj z1
  rw [z2] at y1
  cases y1
  exact y4 hBD
theorem CSt.after (hBD : B' D0) (c : CSt P wl K B' D0 sl σ ws0 O0 H0 ws w es H) (l : Le ws (Own sl σ) H ws2 (Own sl2 σ2) H2) (e : Env K ws2 B' sl2 w2 σ2 H2) : CSt P wl K B' D0 sl2 σ2 ws0 O0 H0 ws2 w2 es H2 := by
  obtain ⟨L, od, h1, h2, h3⟩ := c.acc
  refine ⟨c.le.trans l, e, fun z => ?_, L, od, l.keep D0 _ h1 c.nD (c.nO hBD), h2, DRs.le l h3⟩
  rcases l.new D0 z with q | q
  · exact c.nD q
  · rw [h1] at q; cases q
theorem CSt.back (hno : noOw vs sl = true) (cc : CSt P wl K B' D0 sl σ ws0 O0 H0 ws w es H) (l : Le ws (Own sl σ) H ws2 (Own sl2 σ2) H2) (c : CSt P wl K B' D0 sl2 σ2 ws0 O0 H0 ws2 w2 es2 H2) (hw : L2.wipe σ2 vs = L2.wipe σ vs) (hs : ∀ j, j ∉ vs → sl2[j]? = sl[j]?) :
    CSt P wl K B' D0 sl σ ws0 O0 H0 ws2 w2 es2 H2 ∧ Le ws2 (Own sl2 σ2) H2 ws2 (Own sl σ) H2 := by
  obtain ⟨l', e', l2⟩ := cc.env.back (fun a z => .inl z) hno l c.env hw hs
  obtain ⟨L, od, h1, h2, h3⟩ := c.acc
  exact ⟨⟨c.le.trans l2, e', c.nD, L, od, h1, h2, DRs.le l2 h3⟩, l2⟩
theorem CSt.push {b : Addr} {k : List Int} (hB : B' D0) (hn0 : H0 D0 = none ∨ O0 D0) (c : CSt P wl K B' D0 sl σ ws0 O0 H0 ws w es H) (hd : DR K ws (Bad ws B' sl σ) H (.ref b) (.tup (k.map D.int))) (hz : es.length + 1 < 64) :
    ∃ L od, H D0 = some (.frz od (SetTO P wl D0 L)) ∧ (∀ p ∈ L, SqT K H p.1 (p.2.map V.int)) ∧ L.length + 1 < 64 ∧ ∀ (L' : List (Addr × List Int)) (od' : Obj), (k ∈ L.map (·.2) → L' = L) → (k ∉ L.map (·.2) → L'.Perm ((b, k) :: L)) →
      CSt P wl K B' D0 sl σ ws0 O0 H0 ws w (if k ∈ es then es else es ++ [k]) (upd H D0 (.frz od' (SetTO P wl D0 L'))) := by
  obtain ⟨L, od, h1, h2, h3⟩ := c.acc
  have hlen : L.length = es.length := by have := h2.length_eq; rwa [List.length_map] at this
  refine ⟨L, od, h1, fun p hp => sqT_ints (h3.mem p hp), by omega, fun L' od' c1 c2 => ?_⟩
  have hk : ∀ b u, H b = some u → ¬ Bad ws B' sl σ b → upd H D0 (.frz od' (SetTO P wl D0 L')) b = some u := fun b u h n => by
    rw [upd_ne (fun z => n (.inr (.inl (by rw [z]; exact hB))))]; exact h
  have hx := upd_ex (o := .frz od' (SetTO P wl D0 L')) (sm h1)
  have hall : ∀ p ∈ L', DR K ws (Bad ws B' sl σ) H (.ref p.1) (.tup (p.2.map D.int)) := fun p hp => by
    by_cases m : k ∈ L.map (·.2)
    · rw [c1 m] at hp; exact h3.mem p hp
    · rcases List.mem_cons.mp ((c2 m).mem_iff.mp hp) with e | e
      · rw [e]; exact hd
      · exact h3.mem p e
  have hperm : (L'.map (·.2)).Perm (if k ∈ es then es else es ++ [k]) := by
    by_cases m : k ∈ L.map (·.2)
    · rw [if_pos (h2.mem_iff.mp m), c1 m]; exact h2
    · rw [if_neg fun z => m (h2.mem_iff.mpr z)]
      refine ((c2 m).map (·.2)).trans ?_
      rw [List.map_cons]
      exact (List.Perm.cons k h2).trans (List.perm_append_singleton k es).symm
  refine ⟨⟨c.le.wle, c.le.new, c.le.own, fun b u q1 q2 q3 => ?_, fun b z => c.le.ex b (hx b z)⟩, c.env.setB hB c.nD (by rw [h1]; trivial) trivial, c.nD, L', od', upd_same, hperm, DRs.keep ws.le_refl hk (fun _ z => .inl z) (TL.of hall)⟩
  rw [upd_ne (fun z => by
    rcases hn0 with hn0 | hn0
    · rw [z, hn0] at q1; cases q1
    · exact q3 (by rw [z]; exact hn0))]
  exact c.le.keep b u q1 q2 q3
theorem sc_step {vf : Dn} {v : V} {x y : D} {w1 : W} {es' : List (List Int)} {Nx : Hp → Prop} (hts : ∀ j ∈ ts, j ∈ vs) (hno : noOw vs sl = true) (hBD : B' D0) (hn0 : H0 D0 = none ∨ O0 D0)
    (cc : CSt P wl K B' D0 sl σ ws0 O0 H0 ws w es H) (hd : DR K ws (Bad ws B' sl σ) H v x) (hp : p D x vf (setNo vs sl) w = .ok y w1) (hpt : addS es y = some es')
    (hnx : ∀ ws' H', CSt P wl K B' D0 sl σ ws0 O0 H0 ws' w1 es' H' → Nx H') : stepS P wl K (tGm K ts p) (tE K mg W0 vf) vs σ D0 v H Nx := by
  obtain ⟨lw, ew⟩ := cc.env.wipe (vs := vs)
  refine ⟨ws, B', setNo vs sl, w, x, D, vf, ew, hd.le lw, (by rw [hp]; exact fun z => by cases z), fun σ2 ws2 sl2 w2 H2 o2 u2 l2 e2 z2 => ?_⟩
  have hw := out_wipe o2 hts
  have hs : ∀ j, j ∉ vs → sl2[j]? = sl[j]? := fun j hj => by rw [u2 j (fun z => hj (hts j z)), setNo_out hj]
  refine ⟨hw, ?_⟩
  rw [hp] at z2
  have c2 := cc.after hBD (lw.trans l2) e2
  refine ⟨ws2, B', sl2, w2, e2, runAt_ok z2 fun ws3 H3 l3 e3 u hu => ?_⟩
  have c3 := c2.after hBD l3 e3
  unfold addS at hpt
  split at hpt
  · rename_i ds
    obtain ⟨k, hk, hq⟩ := Option.bind_eq_some_iff.mp hpt
    split at hq
    · rename_i hz
      have he := Option.some.inj hq
      obtain rfl := intsD_eq hk
      obtain ⟨cb, lb⟩ := CSt.back hno cc ((lw.trans l2).trans l3) c3 hw hs
      have hu' := hu.le lb
      obtain ⟨b, rfl⟩ : ∃ b, u = V.ref b := by
        cases hu with
        | tup => exact ⟨_, rfl⟩
      obtain ⟨L, od, h1, h2, h3, h4⟩ := cb.push hBD hn0 hu' hz
      exact ⟨b, k, L, od, rfl, h1, sqT_ints hu', h2, h3, fun L' od' c1 c2 => hnx _ _ (he ▸ h4 L' od' c1 c2)⟩
    · cases hq
  · cases hpt
theorem sc_loop {vf : Dn} {items : List D} {J : It} {esF : List (List Int)} {wF : W} {Fin : Hp → Prop} (hts : ∀ j ∈ ts, j ∈ vs) (hno : noOw vs sl = true) (hBD : B' D0) (hn0 : H0 D0 = none ∨ O0 D0)
    (hJ : ∀ ws w es H, CSt P wl K B' D0 sl σ ws0 O0 H0 ws w es H → JOk K ws (Bad ws B' sl σ) J items H) (h0 : CSt P wl K B' D0 sl σ ws0 O0 H0 ws w es H)
    (hrun : fScM (fun x => p D x vf (setNo vs sl)) items es w = .ok esF wF) (fin : ∀ ws H, CSt P wl K B' D0 sl σ ws0 O0 H0 ws wF esF H → Fin H) :
    ∃ W : Nat → Nat → Hp → Prop, (∃ m, W 0 m H) ∧ ∀ i m H, W i m H → (J.stop i H ∧ Fin H) ∨ (J.go i H ∧ ∃ Nx : Hp → Prop, (∀ H', Nx H' → ∃ m', m' < m ∧ W (i + 1) m' H') ∧ ∀ x H', J.yld i H x H' → stepS P wl K (tGm K ts p) (tE K mg W0 vf) vs σ D0 x H' Nx) := by
  refine ⟨fun i m H => m = items.length - i ∧ ∃ ws w es, CSt P wl K B' D0 sl σ ws0 O0 H0 ws w es H ∧ fScM (fun x => p D x vf (setNo vs sl)) (items.drop i) es w = .ok esF wF, ⟨_, rfl, ws, w, es, h0, hrun⟩, ?_⟩
  rintro i m H ⟨rfl, ws, w, es, c, hr⟩
  have hj := hJ ws w es H c i
  by_cases hi : i < items.length
  · have hd : items[i]? = some items[i] := by simp [hi]
    rw [List.drop_eq_getElem_cons hi] at hr
    obtain ⟨hgo, hy⟩ := hj.1 _ hd
    obtain ⟨d, w1, q1, q2⟩ := bind_okE hr
    obtain ⟨es', w2, q3, q4⟩ := bind_okE q2
    have hpt : addS es d = some es' ∧ w2 = w1 := by
      cases q : addS es d with
      | none => rw [q] at q3; cases q3
      | some e => rw [q] at q3; cases q3; exact ⟨rfl, rfl⟩
    obtain ⟨hpt, rfl⟩ := hpt
    refine .inr ⟨hgo, fun H' => ∃ m', m' < items.length - i ∧ m' = items.length - (i + 1) ∧ ∃ ws w es, CSt P wl K B' D0 sl σ ws0 O0 H0 ws w es H' ∧ fScM _ (items.drop (i + 1)) es w = .ok esF wF, fun H' z => z, fun x H' hyl => ?_⟩
    obtain ⟨gr, hx⟩ := hy x H' hyl
    exact sc_step hts hno hBD hn0 (c.grow gr) hx (noEx_ok q1) hpt fun ws' H'' c' => ⟨_, by omega, rfl, ws', _, _, c', q4⟩
  · rw [List.drop_of_length_le (by omega)] at hr
    cases hr
    exact .inl ⟨hj.2 (by omega), fin ws H c⟩
end
section
variable {X : Cx} {Wx : WX} {vx tg iter : Expr} {scope : Scope} {own : List (Str × Nat)} {pos pos2 np : Pos} {it : An} {p : Gk} {vf : Dn} {ts : List Nat}
theorem m_ssc (hc : X.calm = true) (hu : X.A.units + 64 < cLine) (hN : X.N.Nodup) (hi : PIm X Wx tg iter it) (ok : BlkOk X.N X.env.scope scope own) (hts : ∀ j ∈ ts, j ∈ own.map (·.2))
    (hg : ∀ (s : Shared) (H : Hp) (C : Addr) (cl : List (Str × Addr)) (fp : List Addr), PGm (X.blk s H scope (compEnvC scope cl C X.env) fp) tg ts p)
    (he : ∀ (s : Shared) (H : Hp) (C : Addr) (cl : List (Str × Addr)) (fp : List Addr), PEm (X.blk s H scope (compEnvC scope cl C X.env) fp) W0 vx vf) (hm : X.mg "sorted" = none) (hgl : Gl X "sorted" := by rfl) (hs : ∀ x, foldedSetIterable iter X.env x = pure x := by intro _; rfl)
    (hst : starEach [Expr.SetComp vx [⟨tg, iter, [], 0⟩] scope pos2] X.env = (false, eval (.SetComp vx [⟨tg, iter, [], 0⟩] scope pos2) X.env) :: starEach [] X.env := by rfl) :
    PEm X Wx (.Call (.Name "sorted" np) [.SetComp vx [⟨tg, iter, [], 0⟩] scope pos2] [] pos) (fun sl => nNo (own.map (·.2)) sl (fSsc (it sl) fun x => p D x vf (setNo (own.map (·.2)) sl))) := by
  refine (pe_callB (cr_sortedT hc) hgl hm (by decide +kernel) (pa_cons (pe_scS (g := tGm X.K ts p) (te := tE X.K X.mg W0 vf) hc hu hN hi ok hg he hs) pa_nil rfl) (by decide) (by decide) hst rfl).mimp fun σ H Q ⟨ws, B0, sl, w, e, h⟩ => ?_
  generalize own.map (·.2) = vs at *
  unfold nNo at h
  dsimp only at h
  cases hno : noOw vs sl with
  | false => rw [hno] at h; exact h.elim
  | true =>
    rw [hno] at h
    refine ⟨ws, B0, sl, w, e, ?_⟩
    unfold fSsc at h
    refine (runAt.bind h).mono fun ws1 w1 items H1 l1 e1 h1 J hz hJ D0 od0 hD => ?_
    have h1 := runAt.bind h1
    cases q : fScM (fun x => p D x vf (setNo vs sl)) items [] w1 with
    | bad => rw [q] at h1; exact h1.elim
    | ex y s2 => exact absurd q scM_noex
    | ok es wF =>
      rw [q] at h1
      have gD := Grow.new (o := HO.frz od0 (SetTO X.prog X.w D0 [])) hD
      have hB' : ∀ a, (B0 a ∨ a = D0) → B0 a ∨ (upd H1 D0 (.frz od0 (SetTO X.prog X.w D0 [])) a ≠ none ∧ H1 a = none) := fun a z => z.imp id fun q => by subst q; exact ⟨sm upd_same, hD⟩
      have c0 : CSt X.prog X.w X.K (fun a => B0 a ∨ a = D0) D0 sl σ ws1 (Own sl σ) H1 ws1 w1 [] (upd H1 D0 (.frz od0 (SetTO X.prog X.w D0 []))) :=
        ⟨gD.le _ _, e1.more hB' (fun a z => z.imp id fun q => by rw [q, upd_same]; trivial) gD, fun z => e1.wd D0 z hD, [], od0, upd_same, .refl _, .nil⟩
      refine sc_loop hts hno (.inr rfl) (.inl hD) (fun ws w as H c => hJ ws _ H c.le.wle c.le.kp (bad_more (fun a z => z.imp id fun q => by rw [q]; exact hD) c.le) c.env.bad) c0 q fun ws' H' c => ?_
      obtain ⟨L, od, k1, k2, k3⟩ := c.acc
      have e' := c.env.fewer (B0 := B0) fun a z => .inl z
      obtain ⟨o, ho, _⟩ := runAt.opt (h1 ws' H' c.le e')
      have ho' := ho
      unfold out4 at ho
      split at ho
      · rename_i hok
        obtain ⟨o1, o2, o3⟩ := hok
        cases ho
        rw [List.all_eq_true] at o1
        have o1 : ∀ q ∈ L, ok4 q.2 = true := fun q hq => o1 _ (k2.mem_iff.mp (List.mem_map.mpr ⟨q, hq, rfl⟩))
        refine ⟨L, od, k1, D0, L, 4, 256, rfl, upd_same, fun q hq => sqT_upd k1 (sqT_ints (k3.mem q hq)), by decide, fun q hq => ?_, fun L' pp pm nd few pw hp => ?_⟩
        · have := o1 q hq
          unfold ok4 at this
          rw [Bool.and_eq_true, decide_eq_true_eq, List.all_eq_true] at this
          exact ⟨this.1, fun m hm => of_decide_eq_true (this.2 m hm)⟩
        · have hout : L'.map (·.2) = srt4 es := by
            have pe : (L'.map (·.2)).Perm (srt4 es) := ((pm.map (·.2)).trans k2).trans (List.mergeSort_perm es _).symm
            have s1 : (L'.map (·.2)).Pairwise fun a b => cod4 a ≤ cod4 b := List.pairwise_map.mpr pw
            have s2 : (srt4 es).Pairwise fun a b => cod4 a ≤ cod4 b := by
              have := List.pairwise_mergeSort (le := fun (a b : List Int) => decide (cod4 a ≤ cod4 b)) (fun a b c h1 h2 => by simp at *; omega) (fun a b => by simp; omega) es
              exact this.imp fun h => by simpa using h
            refine pe.eq_of_pairwise (fun a b ha hb h1 h2 => ?_) s1 s2
            obtain ⟨q, hq, rfl⟩ := List.mem_map.mp ha
            obtain ⟨r, hr, rfl⟩ := List.mem_map.mp (pe.mem_iff.mpr hb)
            exact cod4_inj (o1 q (pm.mem_iff.mp hq)) (o1 r (pm.mem_iff.mp hr)) (Int.le_antisymm h1 h2)
          have hpD : pp ≠ D0 := fun z => by rw [z, upd_same] at hp; cases hp
          have hp' : H' pp = none := by rw [upd_ne hpD] at hp; exact hp
          have nBad : ¬ Bad ws' B0 sl σ pp := fun z => e'.bad pp z hp'
          have nBD : ¬ B0 D0 := fun z => e1.dom D0 z hD
          have ed := c.env.drop (B0 := B0) (p := D0) (fun a z => .inl z) (.inr rfl) nBD c.nD (by rw [k1]; trivial)
          have gr : Grow (del H' D0) (upd (upd H' D0 (SetTO X.prog X.w D0 L)) pp (.lst (L'.map fun q => V.ref q.1))) := by
            intro a o z
            by_cases y1 : a = D0
            · rw [y1, show del H' D0 D0 = none from if_pos rfl] at z; cases z
            · rw [del_ne y1] at z
              rw [upd_ne (fun y => by rw [y, hp'] at z; cases z), upd_ne y1]
              exact z
          have e2 := ed.grow gr
          have le2 : Le ws1 (Own sl σ) H1 ws' (Own sl σ) (upd (upd H' D0 (SetTO X.prog X.w D0 L)) pp (.lst (L'.map fun q => V.ref q.1))) := by
            refine ⟨c.le.wle, c.le.new, c.le.own, fun a o z n1 n2 => ?_, fun a z => ?_⟩
            · have h3 := c.le.keep a o z n1 n2
              rw [upd_ne (fun y => by rw [y, hp'] at h3; cases h3), upd_ne (fun y => by rw [y, hD] at z; cases z)]
              exact h3
            · by_cases y1 : a = D0
              · rw [y1]; exact hD
              · by_cases y2 : a = pp
                · rw [y2, upd_same] at z; cases z
                · rw [upd_ne y2, upd_ne y1] at z
                  exact c.le.ex a z
          obtain ⟨o, ho2, h3⟩ := runAt.opt (h1 ws' _ le2 e2)
          rw [ho'] at ho2
          cases ho2
          refine runAt.here e2 h3 _ (.lst ?_ nBad upd_same ?_)
          · rw [← hout, List.length_map, List.length_map, sizeLine_eq]; omega
          · have tl : TL X.K ws' (Bad ws' (fun a => B0 a ∨ a = D0) sl σ) H' L' := TL.of fun q hq => k3.mem q (pm.mem_iff.mp hq)
            have := DRs.keep (B' := Bad ws' B0 sl σ) (H' := upd (upd H' D0 (SetTO X.prog X.w D0 L)) pp (.lst (L'.map fun q => V.ref q.1))) ws'.le_refl (fun a o z n => by
              rw [upd_ne (fun y => by rw [y, hp'] at z; cases z), upd_ne (fun y => n (.inr (.inl (.inr y))))]; exact z) (fun a z => .inl (z.imp id fun q => q.imp .inl id)) tl
            rw [← hout, List.map_map]
            exact this
      · cases ho
end
end Pm
namespace Pm
open PySem PySem.Spec PyProof.Rows L2 RZ


end Pm

namespace Pm
open PySem PySem.Spec PyProof.Rows L2
section
variable {P : Program} {w : World} {A : Around} {E : Value → Shared → Prop} {s : Shared}
variable {a : Addr} {L : List (Addr × List Int)} {es : Array (Int × Value)} {ep : Nat} {t : SetTable}
end
theorem one_row {L : List (Addr × List Int)} {k : List Int} (nd : (L.map (·.2)).Nodup) (h : ∀ p ∈ L, p.2 = k) (ne : L ≠ []) : ∃ p, L = [(p, k)] := by
  match L, ne with
  | [(p, k')], _ =>
    obtain rfl : k' = k := h _ List.mem_cons_self
    exact ⟨p, rfl⟩
  | (p, k') :: (q, k'') :: r, _ =>
    have e1 : k' = k := h _ List.mem_cons_self
    have e2 : k'' = k := h _ (List.mem_cons_of_mem _ List.mem_cons_self)
    subst e1; subst e2
    simp at nd
end Pm
namespace Pm
open PySem PySem.Spec PyProof.Rows L2
end Pm

namespace Pm
open PySem PySem.Spec PyProof.Rows L2
def okf : D → Bool
  | .obj _ => true
  | d => okt d
section
variable {K : PySem.W.Frag} {mg : Str → Option Value} {Wx : WX} {ws ws' : Wa} {B0 B : Addr → Prop} {sl : Ls} {w w' : W} {σ : L2.St} {H H' : Hp} {v : V} {d : D} {ob : List (Addr × Bool)}
theorem FPs.lookup {f : Str} : ∀ {fv : List (Str × V)} {fs : List (Str × D)}, Paired (FP K ob H) fv fs → (∀ d, fs.lookup f = some d → ∃ v, fv.lookup f = some v ∧ FR K ob H v d) ∧ (fs.lookup f = none → fv.lookup f = none)
  | _, _, .nil => ⟨fun d h => by simp at h, fun _ => rfl⟩
  | (g, x) :: fv, (g', y) :: fs, .cons h r => by
    obtain ⟨e, h2⟩ := h
    simp only at e h2
    subst e
    obtain ⟨r1, r2⟩ := FPs.lookup (f := f) r
    by_cases z : f = g
    · subst z
      refine ⟨fun d hd => ?_, fun hn => ?_⟩
      · rw [List.lookup_cons_self] at hd
        cases hd
        exact ⟨x, List.lookup_cons_self, h2⟩
      · rw [List.lookup_cons_self] at hn; cases hn
    · have zb : (f == g) = false := by simpa using z
      refine ⟨fun d hd => ?_, fun hn => ?_⟩
      · simp only [List.lookup_cons, zb] at hd ⊢
        exact r1 d hd
      · simp only [List.lookup_cons, zb] at hn ⊢
        exact r2 hn
theorem Env.fr (e : Env K ws B0 sl w σ H) (h : FR K ws.ob H v d) : DR K ws (Bad ws B0 sl σ) H v d := by
  rcases h with h | ⟨k, b, c, rfl, h, rfl⟩
  · exact e.dr h
  · exact .obj h
theorem DR.fr (kf : kfl K = false) (h : DR K ws B H v d) (ho : okf d = true) : FR K ws.ob H v d := by
  cases h with
  | obj h => exact .inr ⟨_, _, _, rfl, h, rfl⟩
  | non => exact .inl .non
  | bl b => exact .inl (.bl b)
  | int i => exact .inl (.int i)
  | str x => exact .inl (.str x)
  | tup z t r => exact .inl (DR.tr kf (.tup z t r) ho)
  | lst _ _ _ _ => simp [okf, okt] at ho
  | scr _ _ => simp [okf, okt] at ho
  | dk _ _ _ _ => simp [okf, okt] at ho
  | dt _ _ _ _ => simp [okf, okt] at ho
  | town _ => simp [okf, okt] at ho
  | fn _ _ _ _ _ _ => simp [okf, okt] at ho
  | exc _ _ => simp [okf, okt] at ho
  | kt _ _ _ _ _ => simp [okf, okt] at ho
end
section
variable {X : Cx} {Wx : WX} {a o e value : Expr} {pos pos' : Pos} {c f : Str} {g h : Dn}
end
end Pm

namespace Pm
open PySem PySem.Spec PyProof.Rows L2
section
variable {K : PySem.W.Frag} {mg : Str → Option Value} {Wx : WX} {ws ws' : Wa} {B0 B : Addr → Prop} {sl : Ls} {w w' : W} {σ : L2.St} {H H' : Hp} {v : V} {d : D} {ob : List (Addr × Bool)}
theorem TRs.dropLast : ∀ {vs : List V} {ds : List D}, TRs K H vs ds → TRs K H vs.dropLast ds.dropLast
  | _, _, .nil => .nil
  | _, _, .cons h .nil => .nil
  | _, _, .cons h (.cons h2 r) => .cons h (TRs.dropLast (.cons h2 r))
theorem TRs.get {d : D} : ∀ {vs : List V} {ds : List D}, TRs K H vs ds → ∀ i : Nat, ds[i]? = some d → ∃ v, vs[i]? = some v ∧ TR K H v d
  | _, _, .nil, i, h => by simp at h
  | _, _, .cons h r, 0, e => by simp at e; subst e; exact ⟨_, rfl, h⟩
  | _, _, .cons h r, i + 1, e => by
    obtain ⟨v, h1, h2⟩ := TRs.get r i (by simpa using e)
    exact ⟨v, by simpa using h1, h2⟩
end
section
variable {X : Cx} {Wx : WX} {e v : Expr} {pos apos cpos : Pos} {f g : Dn}
end
end Pm
namespace Pm
open PySem PySem.Spec PyProof.Rows L2
section
variable {K : PySem.W.Frag} {mg : Str → Option Value} {Wx : WX} {ws ws' : Wa} {B0 B : Addr → Prop} {sl : Ls} {w w' : W} {σ : L2.St} {H H' : Hp} {v : V} {d : D} {ob : List (Addr × Bool)}
end
section
variable {X : Cx} {Wx : WX} {elt tg iter : Expr} {scope : Scope} {own : List (Str × Nat)} {pos : Pos} {g : Dn} {p : Gk} {f : Dn} {ts : List Nat}
end
end Pm

namespace Pm
open PySem PySem.Spec PyProof.Rows L2
def CalT (P : Program) (w : World) (K : PySem.W.Frag) (mg : Str → Option Value) (base : Heap) (k : Nat) (c m : Str) (ps : List Str) (mf : Mf) : Prop := ∃ f fd, Meth K (clsK K c) m f ∧ Binds K fd ps [] ∧ FnOk P w K mg base (L2.CX P w) k f fd ps (spF K mg ps.length mf)
abbrev FunTK (K : PySem.W.Frag) (c m q : Str) (st : Stmt) (kws : List (Str × V)) (f : Addr) (fd : FuncData) : Prop := FunD K m q (defArgs st) (defBody st) (defScope st) [] kws f fd
def CalTK (P : Program) (w : World) (K : PySem.W.Frag) (mg : Str → Option Value) (base : Heap) (k : Nat) (c m q : Str) (st : Stmt) (ps : List Str) (kws : List (Str × V)) (mf : Mf) : Prop := ∃ f fd, Meth K (clsK K c) m f ∧ FunTK K c m q st kws f fd ∧ FnOk P w K mg base (L2.CX P w) k f fd ps (spF K mg ps.length mf)
structure ClsX (K : PySem.W.Frag) (mg : Str → Option Value) (c : Str) : Prop where
  cl : Cls K (clsK K c)
  mks : PySem.W.makesIn K (clsK K c) = true
  kp : PySem.W.keepIn K (.ref (clsK K c)) = true
  gl : mg c = some (.ref (clsK K c))
section
variable {P : Program} {w : World} {K : PySem.W.Frag} {mg : Str → Option Value} {base : Heap}
theorem CalT.mono {j k : Nat} {c x : Str} {ps : List Str} {m : Mf} (h : CalT P w K mg base j c x ps m) (l : j ≤ k) : CalT P w K mg base k c x ps m := by
  obtain ⟨f, fd, h1, h2, h3⟩ := h
  exact ⟨f, fd, h1, h2, h3.mono l⟩
theorem CalTK.mono {j k : Nat} {c x q : Str} {st : Stmt} {ps : List Str} {kws : List (Str × V)} {m : Mf} (h : CalTK P w K mg base j c x q st ps kws m) (l : j ≤ k) : CalTK P w K mg base k c x q st ps kws m := by
  obtain ⟨f, fd, h1, h2, h3⟩ := h
  exact ⟨f, fd, h1, h2, h3.mono l⟩
end
section
variable {K : PySem.W.Frag} {mg : Str → Option Value} {Wx : WX} {ws ws' : Wa} {B0 B : Addr → Prop} {sl : Ls} {w w' : W} {σ : L2.St} {H H' : Hp} {v : V} {d : D}
end
section
variable {X : Cx} {Wx : WX} {o e : Expr} {es : List Expr} {pos apos p : Pos} {c nm x : Str} {f : Dn} {g gk : An} {kas : List Keyword}
end
end Pm

namespace Pm
open PySem PySem.Spec PyProof.Rows L2
section
variable {X : Cx} {Wx : WX} {o e : Expr} {es : List Expr} {pos apos p : Pos} {c nm qn x : Str} {f : Dn} {g gk : An} {kas : List Keyword}
end

section
variable {K : PySem.W.Frag} {mg : Str → Option Value} {Wx : WX} {ws ws' : Wa} {B0 B : Addr → Prop} {sl : Ls} {w w' : W} {σ : L2.St} {H H' : Hp} {v : V} {d : D}
end
section
variable {X : Cx} {Wx : WX} {e : Expr} {es : List Expr} {pos p : Pos} {c x : Str} {g : An}
end
end Pm

namespace Pm
open PySem PySem.Spec PyProof.Rows L2
section
variable {X : Cx} {pins : List (Addr × Obj)} {σ : L2.St} {H : Hp} {s : Shared} {a C dx f : Addr} {fv : List (Str × V)} {A : Around} {E : Value → Shared → Prop}
end
section
variable {X : Cx}
end
section
variable {K : PySem.W.Frag} {mg : Str → Option Value} {Wx : WX} {ws ws' : Wa} {B0 B : Addr → Prop} {sl : Ls} {w w' : W} {σ : L2.St} {H H' : Hp}
end
section
variable {X : Cx} {Wx : WX} {e : Expr} {pos p : Pos} {c : Str} {f : Dn} {m : Mf} {ps : List Str}
end

section
variable {X : Cx} {Wx : WX} {e v1 v2 : Expr} {es rest : List Expr} {pos p : Pos} {f : Dn} {fs : List Dn}
inductive PJm (X : Cx) (Wx : WX) : List Expr → List Dn → Prop
  | nil : PJm X Wx [] []
  | cons {e : Expr} {f : Dn} {es : List Expr} {fs : List Dn} (h : PEm X Wx e f) (r : PJm X Wx es fs) : PJm X Wx (e :: es) (f :: fs)
end
end Pm

namespace PySem
namespace HandSPX
section
variable {M : Model} {A : Around} {E : Value → Shared → Prop} {s : Shared} {Z : Obj → Prop} {base : Heap} {env : Env} {outer l : List Env} {L e : Addr}
end
end HandSPX
end PySem
namespace L2
open PySem PySem.Spec PyProof.Rows
section
variable {X : Cx} {pins : List (Addr × Obj)} {σ : St} {H : Hp} {s : Shared} {W : WX}
end
end L2

namespace Pm
open PySem PySem.Spec PyProof.Rows L2
section
variable {Wx : WX} {K : PySem.W.Frag} {mg : Str → Option Value} {sl : Ls} {σ : L2.St} {vs ts : List Nat} {p : Gk} {f : Dn}
end
section
variable {X : Cx} {Wx : WX} {elt tg iter : Expr} {scope : Scope} {own : List (Str × Nat)} {pos : Pos} {it : An} {p : Gk} {f : Dn} {ts : List Nat}
end
end Pm

namespace L2
open PySem PySem.Spec PyProof.Rows
section
variable {X : Cx} {pins : List (Addr × Obj)} {σ : St} {H : Hp} {sI s4 : Shared}
theorem Inv.excIn {a : Addr} {oe : Obj} {φ : Heap → Prop} (YI : Inv X pins σ H sI) (Y : Inv X pins σ H s4) (na : H a = none) (ni : sI.heap.get? a = none) (nL : a ≠ X.env.locals) (he : s4.heap.get? a = some oe) (hφ : φ s4.heap)
    (hst : ∀ g1 g2 : Heap, φ g1 → (∀ o, g1.get? a = some o → g2.get? a = some o) → φ g2) : Inv X pins σ (upd H a (.ext φ)) s4 := by
  have nz : ∀ {b : Addr} {u : Obj}, sI.heap.get? b = some u → b ≠ a := fun {b u} z q => by rw [q, ni] at z; cases z
  have up : ∀ {b : Addr} {x : HO}, H b = some x → upd H a (.ext φ) b = some x := fun {b x} z => by rw [upd_ne (ne_of_none z na)]; exact z
  refine ⟨Y.ok, Y.os, Y.bare, ⟨Y.base.keep, Y.base.slot, fun b o z1 z2 z3 => ?_, Y.base.there, fun b xs z => up (Y.base.tups b xs z), fun b o u z => up (Y.base.frzs b o u z), fun b ps z => ?_⟩, Y.loc, Y.cell, ?_, fun x c z => ?_, fun p hp => ?_, fun b u z => ?_, Y.len⟩
  · obtain ⟨o', z4⟩ := YI.base.there b o z1 z3
    rw [upd_ne (nz z4)]
    exact Y.base.free b o z1 z2 z3
  · obtain ⟨more, z2⟩ := Y.base.tbls b ps z
    exact ⟨more, up z2⟩
  · rw [upd_ne (Ne.symm nL)]; exact Y.free
  · obtain ⟨v, o1, z2, _⟩ := YI.cell x c z
    rw [upd_ne (nz z2)]; exact Y.freeC x c z
  · obtain ⟨p1, p2, p3, p4, p5⟩ := Y.pin p hp
    obtain ⟨q1, _⟩ := YI.pin p hp
    exact ⟨p1, by rw [upd_ne (nz q1)]; exact p2, p3, p4, p5⟩
  · by_cases hb : b = a
    · subst hb
      rw [upd_same] at z
      cases z
      exact ⟨hφ, ⟨oe, he⟩, hst⟩
    · rw [upd_ne hb] at z
      exact (Y.hok b u z).stay (fun _ _ _ r => r) (fun c r => up r) fun c xs r => up r
end
section
variable {X : Cx} {x n : Str} {c : Value} {i : Nat} {body suite : List Stmt} {b₀ : Stmt} {np pos pos' : Pos} {tb : WX → TS} {ts : Addr → TS} {Wout : WX}
end


structure FnX (P : Program) (w : World) (K : PySem.W.Frag) (mg : Str → Option Value) (base : Heap) (CX : CXT) (k : Nat) (f : Addr) (fd : FuncData) (ps : List Str) (sp : Sp) : Prop where
  lenX : ∀ vs H Q E, sp vs H Q E → vs.length = ps.length
  runX : ∀ (A : Around) (outer : List Env) (s : Shared) (H : Hp) (args : Args) (us : List Value) (vs : List V) (Q : VK) (E : XK), L2H.RoomH k A → Env0 P w K mg base A outer s H → BindsTo s fd args (ps.zip us) → Vals vs us → sp vs H Q E → codeAny (model P w) A (.call (.ref f) args) (CR CX outer P w H s Q E) s
section
variable {X : Cx} {CX : CXT} {k : Nat} {f C : Addr} {fd : FuncData} {ps : List Str} {sp : Sp} {E : St → XK} {x m : Str} {q pos apos : Pos} {e o : Expr} {es : List Expr} {ta : TE} {t : TA}
end
end L2
namespace Pm
open PySem PySem.Spec PyProof.Rows L2

section
variable {X : Cx} {Wx : WX} {a : Expr} {pos p p' : Pos}
end

section
variable {P : Program} {w : World} {K : PySem.W.Frag} {mg : Str → Option Value} {base : Heap}
end
section
variable {X : Cx} {Wx : WX} {e : Expr} {es : List Expr} {pos p : Pos} {x : Str} {g : An}
end

section
variable {X : Cx} {Wx : WX} {pos pos' np : Pos} {x n : Str} {i : Nat} {m mh : Dn}
end
end Pm

namespace Pm
open PySem PySem.Spec PyProof.Rows L2
section
variable {K : PySem.W.Frag} {mg : Str → Option Value} {Wx : WX} {ws ws' : Wa} {B0 B : Addr → Prop} {sl : Ls} {w w' : W} {σ : L2.St} {H H' : Hp} {v : V} {d : D} {ob : List (Addr × Bool)}
theorem FPs.any {f : Str} : ∀ {fv : List (Str × V)} {fs : List (Str × D)}, Paired (FP K ob H) fv fs → (fv.any fun p => decide (p.1 = f)) = fs.any fun p => decide (p.1 = f)
  | _, _, .nil => rfl
  | _, _, .cons h r => by rw [List.any_cons, List.any_cons, h.1, FPs.any r]
end
section
variable {X : Cx} {Wx : WX} {e v a b o i : Expr} {pos apos cpos p2 : Pos} {f g gi : Dn} {lo hi : Option Expr} {gl gh : On}
end

def tPg (K : PySem.W.Frag) (mg : Str → Option Value) (Wx : WX) (g : Ls → M (List (Str × D))) : L2.St → Hp → (List (V × V) → Hp → Prop) → Prop := fun σ H Q => ∃ ws B0 sl w, Env K ws B0 sl w σ H ∧ runAt K mg Wx ws B0 sl σ H (g sl w) fun ws' _ ds H' => ∀ vs, DRs K ws' (Bad ws' B0 sl σ) H' vs (ds.map (·.2)) → Q ((ds.map fun p => V.str p.1).zip vs) H'
structure PPg (X : Cx) (Wx : WX) (pos : Pos) (keys : List (Option Expr)) (values : List Expr) (g : Ls → M (List (Str × D))) : Prop where
  get : ∃ trs, PPs X pos keys values trs ∧ ∀ σ H Q, tPg X.K X.mg Wx g σ H Q → tPairs trs σ H Q
section
variable {X : Cx} {Wx : WX} {pos : Pos} {keys : List (Option Expr)} {values : List Expr} {g : Ls → M (List (Str × D))}
end
end Pm

namespace Pm
open PySem PySem.Spec PyProof.Rows L2 RZ
section
variable {K : PySem.W.Frag} {ws : Wa} {B : Addr → Prop} {H : Hp}
end
section
variable {X : Cx} {Wx : WX} {e : Expr} {f : Dn}
end

section
variable {X : Cx} {Wx : WX} {a : Expr} {pos p : Pos} {g : An}
end

end Pm

namespace Pm
open PySem PySem.Spec PyProof.Rows L2 RZ PySem.SeqAt PySem.W
abbrev Pr := (Int × Int × Int × Int) × Int
def kAt (c : Int × Int × Int × Int) (p : Int) : Int := if p = 0 then c.1 else if p = 1 then c.2.1 else if p = 2 then c.2.2.1 else c.2.2.2
def kCol (c : Int × Int × Int × Int) : PyData := .tuple [.int c.1, .int c.2.1, .int c.2.2.1, .int c.2.2.2]
def kPair (x : Pr) : PyData := .tuple [kCol x.1, .int x.2]
def kPairD (x : Pr) : D := .tup [.tup [.int x.1.1, .int x.1.2.1, .int x.1.2.2.1, .int x.1.2.2.2], .int x.2]
def kKey (p : Int) (x : Pr) : PyData := .tuple [.int (kAt x.1 p), kCol x.1]
def keyBody (p1 p2 p3 p4 p5 p6 p7 p8 p9 : Pos) : Expr := .Tuple [.Subscript (.Subscript (.Name "pair" p1) (.Constant (.int 0) 0 p2) p3) (.Name "part" p4) p5, .Subscript (.Name "pair" p6) (.Constant (.int 0) 0 p7) p8] 0 p9

theorem reads_int {h : Heap} {v : Value} {i : Int} {as : List Addr} (r : Reads h v (.int i) as) : ∃ t, v = .int i t ∧ as = [] := by
  cases r
  exact ⟨_, rfl, rfl⟩
theorem reads_col {h : Heap} {v : Value} {c : Int × Int × Int × Int} {as : List Addr} (r : Reads h v (kCol c) as) : as = [] ∧ ∃ a items, v = .ref a ∧ IsTup h a items ∧ items.size = 4 ∧ ∀ p : Int, 0 ≤ p → p < 4 → ∃ t, items[p.toNat]? = some (.int (kAt c p) t) := by
  unfold kCol at r
  cases r with
  | tuple h1 h2 h3 r =>
    rename_i a o vs n
    obtain ⟨l⟩ := vs
    cases r with
    | cons r0 r =>
    cases r with
    | cons r1 r =>
    cases r with
    | cons r2 r =>
    cases r with
    | cons r3 r =>
    cases r
    obtain ⟨t0, rfl, rfl⟩ := reads_int r0
    obtain ⟨t1, rfl, rfl⟩ := reads_int r1
    obtain ⟨t2, rfl, rfl⟩ := reads_int r2
    obtain ⟨t3, rfl, rfl⟩ := reads_int r3
    refine ⟨rfl, a, _, rfl, ⟨o, h1, h2, n, h3⟩, rfl, fun p p1 p2 => ?_⟩
    have hp : p = 0 ∨ p = 1 ∨ p = 2 ∨ p = 3 := by omega
    rcases hp with rfl | rfl | rfl | rfl
    · exact ⟨t0, rfl⟩
    · exact ⟨t1, rfl⟩
    · exact ⟨t2, rfl⟩
    · exact ⟨t3, rfl⟩
theorem reads_pair {h : Heap} {v : Value} {x : Pr} {as : List Addr} (r : Reads h v (kPair x) as) : ∃ a items u, v = .ref a ∧ IsTup h a items ∧ items.size = 2 ∧ items[0]? = some u ∧ Reads h u (kCol x.1) [] := by
  unfold kPair at r
  cases r with
  | tuple h1 h2 h3 r =>
    rename_i a o vs n
    obtain ⟨l⟩ := vs
    cases r with
    | cons r0 r =>
    cases r with
    | cons r1 r =>
    cases r
    obtain ⟨e, _⟩ := reads_col r0
    subst e
    exact ⟨a, _, _, rfl, ⟨o, h1, h2, n, h3⟩, rfl, rfl, r0⟩

section
variable {prog : Program} {w : World} {A : Around} {E : Value → Shared → Prop} {s : Shared} {env : PySem.Env}
theorem sub0 {value : Expr} {a : Addr} {items : Array Value} {u : Value} {q q2 : Pos} {Q : Value → Shared → Prop} (hv : ∀ Q' : Value → Shared → Prop, Q' (.ref a) s → wpAny (model prog w) A (eval value env) Q' E s) (ht : IsTup s.heap a items) (h2 : items.size = 2) (h0 : items[0]? = some u)
    (hQ : Q u { s with toks := s.toks + 1 }) : wpAny (model prog w) A (eval (.Subscript value (.Constant (.int 0) 0 q) q2) env) Q E s := by
  refine Subscript_ (hv _ (wpAny_Constant_int ?_))
  have ht' : IsTup ({ s with toks := s.toks + 1 } : Shared).heap a items := ht
  exact subscriptTail_builtinR (x := u) ht'.typeIs slot_tuple_getitem.lookup (getItem_tuple (j := 0) ht' (by decide) (by decide) (by rw [h2]; rfl) h0 ⟨rfl, hQ⟩) (by rfl)
theorem key_body {p1 p2 p3 p4 p5 p6 p7 p8 p9 : Pos} {m : Str → Option Value} {v : Value} {x : Pr} {p : Int} {t : Tok} {c : Addr} {as : List Addr} {Q : Value → Shared → Prop} (hp : 0 ≤ p ∧ p < 4)
    (hk : env.scope.kind = .function) (l1 : env.kindOf ("pair" : Str) = some .local) (hn : s.heap.Ns env.locals m) (hv : m ("pair" : Str) = some v) (l2 : env.kindOf ("part" : Str) = some .free) (hc : env.cells.lookup ("part" : Str) = some c) (hcell : s.heap.IsCell c (some (.int p t)))
    (r : Reads s.heap v (kPair x) as) (hQ : ∀ u h' tk, (∀ b o, s.heap.get? b = some o → h'.get? b = some o) → Reads h' u (kKey p x) [] → Q u { s with heap := h', toks := tk }) :
    wpAny (model prog w) A (eval (keyBody p1 p2 p3 p4 p5 p6 p7 p8 p9) env) Q E s := by
  obtain ⟨a, items, u, rfl, ht, hz, h0, ru⟩ := reads_pair r
  obtain ⟨_, b, its, rfl, hb, hz2, hat⟩ := reads_col ru
  obtain ⟨tp, hpt⟩ := hat p hp.1 hp.2
  have nm : ∀ (k : Nat) (q : Pos) (Q' : Value → Shared → Prop), Q' (.ref a) { s with toks := k } → wpAny (model prog w) A (eval (.Name "pair" q) env) Q' E { s with toks := k } := fun k q Q' h =>
    wpAny_Name (wpAny_loadName_local hk l1 hn hv h)
  unfold keyBody
  refine wpAny_Tuple (args_cons (Subscript_ (sub0 (s := s) (fun Q' h => nm s.toks p1 Q' h) ht hz h0 (wpAny_Name (wpAny_loadName_free hk l2 hc hcell ?_)))))
  have hix : seqIndex? p 4 = some p.toNat := by
    have h4 : p = 0 ∨ p = 1 ∨ p = 2 ∨ p = 3 := by omega
    rcases h4 with rfl | rfl | rfl | rfl <;> rfl
  have hb' : IsTup ({ s with toks := s.toks + 1 } : Shared).heap b its := hb
  refine subscriptTail_builtinR (x := .int (kAt x.1 p) tp) hb'.typeIs slot_tuple_getitem.lookup (getItem_tuple (j := p.toNat) hb' (by omega) (by omega) (by rw [hz2]; exact hix) hpt ⟨rfl, ?_⟩) (by rfl)
  refine args_cons (sub0 (s := { s with toks := s.toks + 1 }) (fun Q' h => nm _ p6 Q' h) ht hz h0 (args_nil ⟨(by rw [sizeLine_eq]; decide : 2 ≤ sizeLine), ?_⟩))
  have kp : ∀ q o, s.heap.get? q = some o → (s.heap.push { cls := .type "tuple", data := .seq #[.int (kAt x.1 p) tp, .ref b] }).get? q = some o := fun q o e => Heap.get?_push_of_some _ e
  refine hQ _ _ _ kp ?_
  unfold kKey
  have e1 : (s.heap.push { cls := .type "tuple", data := .seq #[.int (kAt x.1 p) tp, .ref b] }).get? s.heap.objs.size = some { cls := .type "tuple", data := .seq #[.int (kAt x.1 p) tp, .ref b] } := Heap.get?_push_size _ rfl
  exact Reads.tuple e1 rfl rfl (ReadsAll.cons (Reads.int _ _) (ReadsAll.cons (PyProof.Rows.Reads.keeps kp ru) ReadsAll.nil))
theorem key_call {N : List Str} {f c' c : Addr} {o : Obj} {T : LT} {cl : List (Str × Addr)} {doc pm ctv v : Value} {x : Pr} {p : Int} {t : Tok} {as : List Addr} {p1 p2 p3 p4 p5 p6 p7 p8 p9 : Pos} (hp : 0 ≤ p ∧ p < 4) (hd : A.depth < recursionLimit)
    (ho : s.heap.get? f = some o) (hdat : o.data = .func (T.fd cl c' doc pm ctv)) (lim : s.heap.NoLimit) (hcd : s.heap.CodeRec (.ref c') T.qual) (hbd : T.body = .expr (keyBody p1 p2 p3 p4 p5 p6 p7 p8 p9)) (S : NdefX.NScope N ["pair"] ["part"] T.scope)
    (hbind : bindArgs (T.fd cl c' doc pm ctv) ⟨[v], []⟩ = pure [(("pair" : Str), v)]) (hl : cl.lookup ("part" : Str) = some c) (hcell : s.heap.IsCell c (some (.int p t))) (r : Reads s.heap v (kPair x) as) :
    wpAny (model prog w) A (call (.ref f) [v]) (KeyPure (kKey p x) s) (fun _ _ => False) s := by
  refine wpAny_call (PySem.W.kla_callFunE hd ho hdat S.co S.gen hbd hcd ?_)
  rw [hbind]
  refine wpAny_pure (wpAny_newFunctionEnv S.nocell (fun y hy => ?_) (fun h₁ hns hsb => ⟨lim.fresh _ hsb, ?_⟩) S.kind)
  · rw [List.mem_singleton] at hy
    subst hy
    exact S.par _ (by simp)
  show codeAny _ _ (.expr (keyBody p1 p2 p3 p4 p5 p6 p7 p8 p9) (NdefX.envF (T.nf cl c') f s.heap.objs.size)) _ _
  have kp : ∀ b o, s.heap.get? b = some o → h₁.get? b = some o := fun b o e =>
    hsb.extBut b o (Nat.ne_of_lt (Heap.lt_size e)) (Heap.get?_push_of_some _ e)
  refine PySem.W.kla_codeExpr (key_body (v := v) (c := c) (t := t) (p := p) (x := x) (as := as) hp S.kind (S.par _ (by simp)) hns rfl (S.frk _ (by simp)) hl ?_ (PyProof.Rows.Reads.keeps kp r) fun u h' tk k hr => ?_)
  · obtain ⟨oc, h1, h2⟩ := hcell
    exact ⟨oc, kp _ _ h1, h2⟩
  · exact ⟨h', tk, rfl, fun b o e => k b o (kp b o e), hr⟩
end

def findKey (b : List Stmt) : Option (Arguments × Expr × Scope) := b.findSome? fun st => match st with
  | .Assign _ (.Call _ _ [⟨_, .Lambda a e s _, _⟩] _) _ => some (a, e, s)
  | _ => none
def keyOf (x : Str) (b : List Stmt) (ps fr : List Str) : LT := match findKey b with
  | some (a, e, s) => ⟨lamN, innerName (x, lamN), a, .expr e, s, ps, fr⟩
  | none => ⟨lamN, lamN, ⟨[], [], none, [], [], none, []⟩, .stmts [], { kind := .function, names := [], isGenerator := false, isCoroutine := false, more := [] }, ps, fr⟩

def kpOf : D → Option Pr
  | .tup [.tup [.int a, .int b, .int c, .int d], .int n] => some ((a, b, c, d), n)
  | _ => none
def kpsOf : List D → Option (List Pr)
  | [] => some []
  | d :: r => (kpOf d).bind fun x => (kpsOf r).map (x :: ·)
theorem kp_eq {d : D} {x : Pr} (h : kpOf d = some x) : d = kPairD x := by
  unfold kpOf at h
  split at h <;> cases h
  rfl
theorem kps_eq : ∀ {l : List D} {xs : List Pr}, kpsOf l = some xs → l = xs.map kPairD
  | [], _, h => by cases h; rfl
  | d :: r, xs, h => by
    obtain ⟨x, h1, h2⟩ := Option.bind_eq_some_iff.mp h
    obtain ⟨ys, h3, rfl⟩ := Option.map_eq_some_iff.mp h2
    rw [List.map_cons, ← kp_eq h1, ← kps_eq h3]
theorem kps_map : ∀ xs : List Pr, kpsOf (xs.map kPairD) = some xs
  | [] => rfl
  | x :: xs => by
    rw [List.map_cons, kpsOf, kps_map xs]
    rfl
def sortL (d p : D) : Option D := match d, p with
  | .lst l, .int p => if 0 ≤ p ∧ p < 4 then (kpsOf l).map fun xs => .lst ((xs.mergeSort (dataLe false (kKey p))).map kPairD) else none
  | _, _ => none
def fSortL (x y : M D) : M D := x.bind fun d => y.bind fun p => M.opt (sortL d p)
theorem okd_pair (n : Nat) (x : Pr) : okd (n + 2) (kPairD x) = true := by
  unfold kPairD
  simp [okd]
theorem toPy_pair (x : Pr) : toPy (kPairD x) = kPair x := rfl
theorem dep_key (p : Int) (x : Pr) : (kKey p x).depth = 2 := by
  unfold kKey kCol
  simp [PyData.depth, PyData.depthAll]
theorem each_zip {K : PySem.W.Frag} {ws : Wa} {B : Addr → Prop} {H : Hp} : ∀ {vs : List V} {us : List Value} {xs : List Pr}, Vals vs us → DRs K ws B H vs (xs.map kPairD) → EachIs (fun (u : Value) (b : V × Pr) => RelV b.1 u ∧ DR K ws B H b.1 (kPairD b.2)) us (vs.zip xs)
  | _, _, [], r, d => by
    cases d
    cases r
    exact .nil
  | _, _, x :: xs, r, d => by
    cases d with
    | cons a t =>
      cases r with
      | cons a' t' => exact .cons ⟨a', a⟩ (each_zip t' t)
theorem each_out {K : PySem.W.Frag} {ws : Wa} {B : Addr → Prop} {H : Hp} : ∀ {ps : List (V × Pr)} {us : List Value}, EachIs (fun (u : Value) (b : V × Pr) => RelV b.1 u ∧ DR K ws B H b.1 (kPairD b.2)) us ps → Vals (ps.map (·.1)) us ∧ DRs K ws B H (ps.map (·.1)) ((ps.map (·.2)).map kPairD)
  | [], _, h => by cases h; exact ⟨.nil, .nil⟩
  | p :: ps, _, h => by
    cases h with
    | cons a t => exact ⟨.cons a.1 (each_out t).1, .cons a.2 (each_out t).2⟩
section
variable {X : Cx} {Wx : WX} {a : Expr} {f : Dn} {p pos kpos lpos : Pos} {x : Str} {T : LT} {params : Arguments} {scope : Scope} {p1 p2 p3 p4 p5 p6 p7 p8 p9 : Pos} {N0 : List Str} {j : Nat}
theorem m_sortL (hr : Room 1 X.A) (mk : Mkr X x T params (keyBody p1 p2 p3 p4 p5 p6 p7 p8 p9) scope) (S : NdefX.NScope N0 ["pair"] ["part"] T.scope) (hfr : T.fr = [("part" : Str)])
    (hbind : ∀ (cl : List (Str × Addr)) (c : Addr) (doc pm ctv v : Value), bindArgs (T.fd cl c doc pm ctv) ⟨[v], []⟩ = pure [(("pair" : Str), v)]) (cp : X.Ok → NdefX.Caps X (cloFrom X.env.cells scope.names []) T.fr [j])
    (ha : PEm X Wx a f) (hm : X.mg "sorted" = none) (hg : Gl X "sorted" := by rfl) (he : starEach [a] X.env = (false, eval a X.env) :: starEach [] X.env := by rfl) (hw1 : backTo pos (starEach [a] X.env) = (false, eval a X.env) :: backTo pos (starEach [] X.env) := by rfl) (hw2 : (backTo pos (starEach [a] X.env)).any (·.1) = false := by rfl) :
    PEm X Wx (.Call (.Name "sorted" p) [a] [⟨some "key", .Lambda params (keyBody p1 p2 p3 p4 p5 p6 p7 p8 p9) scope lpos, kpos⟩] pos) (fun sl => fSortL (f sl) (nVar j sl)) := by
  refine ⟨fun pins s σ H Q I h => ?_⟩
  obtain ⟨ws, B0, sl, w, en, h⟩ := h
  refine wpAny_Call_Name_kw (ld_blt I hg hm (show bootBuiltins "sorted" = some (.builtin "sorted") by decide +kernel) ?_)
  refine PyProof.Rows.callWith_kw ?_ hw1 hw2
  have t0 : tE X.K X.mg Wx f σ H (fun v H1 => ∃ ws1 w1 d, Env X.K ws1 B0 sl w1 σ H1 ∧ DR X.K ws1 (Bad ws1 B0 sl σ) H1 v d ∧
      runAt X.K X.mg Wx ws1 B0 sl σ H1 (((nVar j sl).bind fun p => M.opt (sortL d p)) w1) fun ws' _ d H' => ∀ v, DR X.K ws' (Bad ws' B0 sl σ) H' v d → Q v H') := by
    refine ⟨ws, B0, sl, w, en, (runAt.bind h).mono fun ws1 w1 d H1 l1 e1 h1 v hv => ⟨ws1, w1, d, e1, hv, h1⟩⟩
  refine args_cons (thn (ha.run pins s σ H _ I t0) fun u s1 ⟨v, H1, I1, rv, ws1, w1, d, e1, hv, h1⟩ => args_nil ?_) he
  -- what stands in the slot
  have h2 := runAt.bind h1
  cases qn : nVar j sl w1 with
  | bad => rw [qn] at h2; exact h2.elim
  | ex c w2 =>
    have z : capD [j] sl w1 = .ex c w2 := by
      unfold capD M.bind
      rw [qn]
    exact absurd z (cap_noex [j])
  | ok pd w2 =>
  rw [qn] at h2
  have qc : capD [j] sl w1 = .ok [pd] w2 := by
    unfold capD M.bind
    rw [qn]
    rfl
  obtain ⟨rfl, cvs, hjs, rcv⟩ := cap_vals e1 [j] [pd] qc
  have h3 := runAt.here e1 h2
  cases qs : sortL d pd with
  | none => rw [qs] at h3; exact h3.elim
  | some d' =>
  rw [qs] at h3
  unfold sortL at qs
  split at qs
  rotate_left
  · cases qs
  rename_i l pp
  split at qs
  rotate_left
  · cases qs
  rename_i hpp
  obtain ⟨xs, hxs, rfl⟩ := Option.map_eq_some_iff.mp qs
  obtain rfl := kps_eq hxs
  obtain ⟨cl, hcl⟩ : ∃ cl, cl = cloFrom X.env.cells scope.names [] := ⟨_, rfl⟩
  have t2 : tCons (fun σ H Q => tAL X Wx (fun _ => M.pure []) T (cloFrom X.env.cells scope.names []) σ H fun vs H1 => ∃ v, vs = [v] ∧ Q v H1) tNil σ H1 (fun vs H2 => ∃ ws2 f c, vs = [.ref f] ∧ Le ws1 (Own sl σ) H1 ws2 (Own sl σ) H2 ∧ Env X.K ws2 B0 sl w2 σ H2 ∧ H2 f = some (LamO f T cl c) ∧ H2 c = some (LamX.CodeO c T.qual)) := by
    refine ⟨ws1, B0, sl, w2, e1, ?_⟩
    exact fun ws2 H2 l2 e2 vs f c H3 l3 e3 r f1 c1 => by
      cases r
      exact ⟨_, rfl, ws2, f, c, rfl, l2.trans l3, e3, by rw [hcl]; exact f1, c1⟩
  refine thn ((pk_cons (nm := some "key") (kpos := kpos) (pe_lam (Wx := Wx) (lpos := lpos) mk) pk_nil).run pos pins s1 σ H1 _ I1 t2) fun kvs s2 ⟨kv, H2, I2, r2, ws2, fa, c, ekv, l2, e2, f1, c1⟩ => ?_
  subst ekv
  have ek : kvs = [.ref fa] := by
    cases r2 with
    | cons a t =>
      cases t
      cases a
      rfl
  subst ek
  have hv2 := hv.le l2
  cases hv2 with
  | lst z n hl r =>
  rename_i a2 vs
  cases rv
  obtain ⟨its, rvv, pl, hz⟩ := I2.list (.inl (.inl hl))
  have hlen : vs.length = xs.length := by rw [r.length, List.length_map]
  have CA : NdefX.CellsAt cl T.fr ([j].map (NdefX.slotAt σ)) s2.heap H2 := by rw [hcl]; exact NdefX.cells_of I2 (cp I2.ok)
  obtain ⟨c0, hc0, hcv⟩ := CA.has 0 "part" (by rw [hfr]; rfl)
  have e0 : ([j].map (NdefX.slotAt σ))[0]? = some (some (.int pp)) := by
    rw [hjs]
    cases rcv with
    | cons a t => cases a; rfl
  obtain ⟨u0, ru0, hcell⟩ := hcv _ e0
  obtain ⟨t0, rfl⟩ := ru0
  obtain ⟨od, sl0, doc, pm, ctv, ho⟩ := lamO_at I2.hok f1
  have hcode := NdefX.codeO_at I2.hok c1
  have hbs : (vs.zip xs).length = xs.length := by rw [List.length_zip]; omega
  show wpAny (model X.prog X.w) X.A (call (.builtin "sorted") [.ref a2] [(Str.ofString "key", .ref fa)]) _ _ _
  refine sorted_key_data (b := false) (R := fun (u : Value) (b : V × Pr) => RelV b.1 u ∧ DR X.K ws2 (Bad ws2 B0 sl σ) H2 b.1 (kPairD b.2)) (bs := vs.zip xs) (fun b : V × Pr => kKey pp b.2) pl.isList (each_zip rvv r) (AllAlike.of fun _ _ => by simp [alike, alikeAll, kKey, kCol]) (Sortable.tuples fun _ => ⟨_, _, rfl⟩) (by rw [hbs]; rw [List.length_map] at z; exact z) (fun b _ => by rw [dep_key]; have := hr.un; omega) (ksk_s1 _ _) (fun _ => ksk_l1 _ _) (fun _ => ksk_t1 _ _) (fun u b hb _ h tk kp => ?_) fun out c h' tk kp fresh hD hl2 hout => ?_
  · obtain ⟨b1, b2⟩ := hb
    have hdp := dp_of 40 b.1 (kPairD b.2) (okd_pair 38 b.2) b2
    rw [toPy_pair] at hdp
    obtain ⟨as, rd⟩ := Dp.reads I2 _ _ _ hdp b1
    obtain ⟨cc, oc, vs', tq, q1, q2, q3, q4⟩ := hcode
    refine key_call (s := { s2 with heap := h, toks := tk }) (N := N0) (T := T) (x := b.2) (t := t0) (c := c0) (c' := c) hpp (by have := hr.dp; show X.A.depth < _; omega) (kp _ _ ho) rfl (I2.nolimit.keeps kp) ⟨cc, oc, vs', tq, q1, kp _ _ q2, q3, q4⟩ mk.h4 S (hbind cl c doc pm ctv u) hc0 ?_ (PyProof.Rows.Reads.keeps kp rd)
    obtain ⟨o1, h1, h2⟩ := hcell
    exact ⟨o1, kp _ _ h1, h2⟩
  · obtain ⟨ov, od⟩ := each_out hout
    have e4 : ((vs.zip xs).mergeSort (dataLe false fun b : V × Pr => kKey pp b.2)).map (·.2) = xs.mergeSort (dataLe false (kKey pp)) := by
      have q : ((vs.zip xs).mergeSort fun a b => dataLe false (kKey pp) a.2 b.2).map (·.2) = ((vs.zip xs).map (·.2)).mergeSort (dataLe false (kKey pp)) := List.map_mergeSort fun _ _ _ _ => rfl
      rw [List.map_snd_zip (by omega)] at q
      exact q
    rw [e4] at od
    have hf : H2 (s2.heap.objs.size + 1) = none := I2.hok.fresh (Nat.le_succ _)
    have g : Grow H2 (upd H2 (s2.heap.objs.size + 1) (.lst (((vs.zip xs).mergeSort (dataLe false fun b : V × Pr => kKey pp b.2)).map (·.1)))) := Grow.new hf
    have hsz : (((vs.zip xs).mergeSort (dataLe false fun b : V × Pr => kKey pp b.2)).map (·.1)).length ≤ sizeLine := by
      rw [List.length_map, List.length_mergeSort, hbs]; rw [List.length_map] at z; exact z
    refine ⟨.ref _, upd H2 (s2.heap.objs.size + 1) (.lst (((vs.zip xs).mergeSort (dataLe false fun b : V × Pr => kKey pp b.2)).map (·.1))), I2.laid (t' := tk) kp (Nat.le_succ _) ⟨hsz, out, c, ov, hD⟩, rfl, h3 ws2 _ (l2.trans (g.le _ _)) (e2.grow g) _ (.lst (by rw [List.length_map, List.length_mergeSort]; rw [List.length_map] at z; exact z) (e2.fresh hf) upd_same (od.grow g))⟩
end
end Pm

namespace Pm
open PySem PySem.Spec PySem.Calls PyProof.Rows L2 RZ PySem.SeqAt PySem.W
section
variable {prog : Program} {w : World} {A : Around} {E : Value → Shared → Prop} {s : Shared} {β : Type} {vs : List Value} {bs : List β} {R : Value → β → Prop} {enc : β → PyData}
end
end Pm
namespace Pm
open PySem PySem.Spec PyProof.Rows L2


def nts (ns : List Int) : List D := ns.map D.int
theorem nts_len (ns : List Int) : (nts ns).length = ns.length := List.length_map ..
theorem sizeIs : sizeLine = 16777216 := by decide
section
variable {α β : Type}
theorem f_bin (op : D → D → Option D) (a b : D) : fBin op (M.pure a) (M.pure b) = M.opt (op a b) := rfl
theorem f_nil : fNil = M.pure [] := rfl
theorem f_cons (a : D) (l : List D) : fCons (M.pure a) (M.pure l) = M.pure (a :: l) := rfl
theorem f_tup (l : List D) : fTup (M.pure l) = M.pure (.tup l) := rfl
theorem f_lst (l : List D) : fLst (M.pure l) = M.pure (.lst l) := rfl
theorem f_call (m : Mf) (l : List D) : fCall m (M.pure l) = m l := rfl
theorem f_cb (fn : List D → Option D) (l : List D) : fCB fn (M.pure l) = M.opt (fn l) := rfl
theorem f_if (b : Bool) (x y : M α) : fIf (M.pure b) x y = if b = true then x else y := rfl
theorem f_ofv (d : D) : fOf (M.pure d) = M.opt (blD d) := rfl
theorem f_of (b : Bool) : fOf (M.pure (.bl b)) = M.pure b := rfl
theorem bl_bl (b : Bool) : blD (.bl b) = some b := rfl
theorem f_tru (d : D) : fTru (M.pure d) = M.opt (truD d) := rfl
theorem f_andB (b : Bool) (g : M Bool) : fAndB (M.pure b) g = if b = true then g else M.pure false := rfl
theorem f_orB (b : Bool) (g : M Bool) : fOrB (M.pure b) g = if b = true then M.pure true else g := rfl
theorem f_notB (b : Bool) : fNotB (M.pure b) = M.pure (!b) := rfl
theorem f_and (b : Bool) (g : M D) : fAnd (M.pure (.bl b)) g = if b = true then g else M.pure (.bl false) := rfl
theorem f_or (b : Bool) (g : M D) : fOr (M.pure (.bl b)) g = if b = true then M.pure (.bl true) else g := rfl
theorem f_not (d : D) : fNot (M.pure d) = (M.opt (truD d)).bind fun b => M.pure (.bl (!b)) := rfl
theorem f_neg (i : Int) : fNeg (M.pure (.int i)) = M.pure (.int (-i)) := rfl
theorem f_chain (o o' : D → D → Option D) (a b : D) (z : M D) : fChain o o' (M.pure a) (M.pure b) z = (M.opt (o a b)).bind fun r => (M.opt (blD r)).bind fun t => if t = true then z.bind fun c => M.opt (o' b c) else M.pure (.bl false) := rfl
theorem f_sl (d : D) (i j : Option Int) : fSl (M.pure d) (M.pure i) (M.pure j) = M.opt (slD d i j) := rfl
theorem f_ono : fONo = M.pure none := rfl
theorem f_oso (i : Int) : fOSo (M.pure (.int i)) = M.pure (some i) := rfl
theorem ls_lst (l : List D) : lstD (.lst l) = some l := rfl
theorem in_int (i : Int) : intD (.int i) = some i := rfl
theorem ng_int (i : Int) : negD (.int i) = some (.int (-i)) := rfl
theorem f_items (d : D) : fItems (M.pure d) = M.opt (itemsD d) := rfl
theorem i_tup (l : List D) : itemsD (.tup l) = some l := rfl
theorem i_lst (l : List D) : itemsD (.lst l) = some l := rfl
theorem f_zip (x y : D) : fZip (M.pure [x, y]) = M.opt (zipD x y) := rfl
theorem z_tup (a b : List D) : zipD (.tup a) (.tup b) = some (zipL a b) := rfl
theorem z_lst (a b : List D) : zipD (.lst a) (.lst b) = some (zipL a b) := rfl
theorem zl_nil (ys : List D) : zipL [] ys = [] := rfl
theorem zl_cons (x y : D) (xs ys : List D) : zipL (x :: xs) (y :: ys) = .tup [x, y] :: zipL xs ys := rfl
theorem f_enum (x : D) : fEnum (M.pure [x]) = M.opt (enumD x) := rfl
theorem en_tup (a : List D) : enumD (.tup a) = some (enumL 0 a) := rfl
theorem en_lst (a : List D) : enumD (.lst a) = some (enumL 0 a) := rfl
theorem en_nil (n : Nat) : enumL n [] = [] := rfl
theorem en_cons (n : Nat) (x : D) (xs : List D) : enumL n (x :: xs) = .tup [.int n, x] :: enumL (n + 1) xs := rfl
theorem f_rng (l : List D) : fRng (M.pure l) = M.opt (rngF l) := rfl
theorem f_lc (l : List D) (f : D → M D) : fLC (M.pure l) f = (fMapM f l).bind fun r => M.pure (.lst r) := rfl
theorem f_lcf (l : List D) (f : D → M (Option D)) : fLCf (M.pure l) f = (fFltM f l).bind fun r => M.pure (.lst r) := rfl
theorem f_lc2 (l : List D) (f : D → M (List D)) : fLC2 (M.pure l) f = (fCatM f l).bind fun r => if r.length ≤ sizeLine then M.pure (.lst r) else M.bad := rfl
theorem f_in (l : List D) (f : D → M D) : fIn (M.pure l) f = fMapM f l := rfl
theorem f_lz (x y : D) : fLz (M.pure [x, y]) = (M.opt (zipD x y)).bind fun l => M.pure (.lst l) := rfl
theorem f_app (l : List D) (a : D) : fApp (.lst l) (M.pure a) = M.opt (appL l a) := rfl
theorem a_app {l : List D} {a : D} (h : l.length < 16777216) : appL l a = some (.lst (l ++ [a])) := if_pos (by rw [sizeIs]; exact h)
theorem f_ext (l : List D) (a : D) : fExt (.lst l) (M.pure a) = M.opt (extL l a) := rfl
theorem a_ext {l m : List D} (h : l.length + m.length ≤ 16777216) : extL l (.lst m) = some (.lst (l ++ m)) := if_pos (by rw [sizeIs]; exact h)
theorem f_seti (l : List D) (k v : D) : fSetI (.lst l) (M.pure k) v = M.opt (setL l k v) := rfl
theorem f_isi (T : String) (d : D) : fIsi T (M.pure d) = (M.opt (isiD T d)).bind fun b => M.pure (.bl b) := rfl
theorem f_u2 (a b : D) (k : D → D → M α) : fU2 (.tup [a, b]) k = k a b := rfl
theorem f_u3 (a b c : D) (k : D → D → D → M α) : fU3 (.tup [a, b, c]) k = k a b c := rfl
theorem f_u4 (a b c d : D) (k : D → D → D → D → M α) : fU4 (.tup [a, b, c, d]) k = k a b c d := rfl

theorem x_nil (f : D → M D) : fMapM f [] = M.pure [] := rfl
theorem x_cons (f : D → M D) (x : D) (xs : List D) : fMapM f (x :: xs) = (noEx (f x)).bind fun a => (fMapM f xs).bind fun r => M.pure (a :: r) := rfl
def mapX (f : α → M D) : List α → M (List D)
  | [] => M.pure []
  | x :: xs => (noEx (f x)).bind fun a => (mapX f xs).bind fun r => M.pure (a :: r)
theorem mx_nil (f : α → M D) : mapX f [] = M.pure [] := rfl
theorem mx_cons (f : α → M D) (x : α) (xs : List α) : mapX f (x :: xs) = (noEx (f x)).bind fun a => (mapX f xs).bind fun r => M.pure (a :: r) := rfl
theorem x_map (f : D → M D) (E : α → D) : ∀ l : List α, fMapM f (l.map E) = mapX (fun x => f (E x)) l
  | [] => rfl
  | x :: l => by rw [List.map_cons, fMapM, mapX, x_map f E l]
theorem x_pure (g : α → D) : ∀ l : List α, mapX (fun x => M.pure (g x)) l = M.pure (l.map g)
  | [] => rfl
  | x :: l => by rw [mapX, x_pure g l]; rfl
theorem mapX_congr {f g : α → M D} : ∀ {l : List α}, (∀ x ∈ l, f x = g x) → mapX f l = mapX g l
  | [], _ => rfl
  | x :: l, h => by rw [mapX, mapX, h x List.mem_cons_self, mapX_congr fun y hy => h y (List.mem_cons_of_mem _ hy)]
theorem mapX_of {f : α → M D} {g : α → D} {l : List α} (h : ∀ x ∈ l, f x = M.pure (g x)) : mapX f l = M.pure (l.map g) := by rw [mapX_congr h, x_pure]
theorem map_of {f : D → M D} {E : α → D} {g : α → D} {l : List α} (h : ∀ x ∈ l, f (E x) = M.pure (g x)) : fMapM f (l.map E) = M.pure (l.map g) := by rw [x_map, mapX_of h]
theorem xf_nil (f : D → M (Option D)) : fFltM f [] = M.pure [] := rfl
theorem xf_cons (f : D → M (Option D)) (x : D) (xs : List D) : fFltM f (x :: xs) = (noEx (f x)).bind fun a => (fFltM f xs).bind fun r => M.pure (a.toList ++ r) := rfl
theorem flt_of {f : D → M (Option D)} {E : α → D} {g : α → Option D} : ∀ {l : List α}, (∀ x ∈ l, f (E x) = M.pure (g x)) → fFltM f (l.map E) = M.pure (l.filterMap g)
  | [], _ => rfl
  | x :: l, h => by
    rw [List.map_cons, fFltM, h x List.mem_cons_self, flt_of fun y hy => h y (List.mem_cons_of_mem _ hy)]
    cases q : g x <;> simp [q, List.filterMap_cons]
theorem xc_nil (f : D → M (List D)) : fCatM f [] = M.pure [] := rfl
theorem xc_cons (f : D → M (List D)) (x : D) (xs : List D) : fCatM f (x :: xs) = (noEx (f x)).bind fun a => (fCatM f xs).bind fun r => M.pure (a ++ r) := rfl
theorem cat_of {f : D → M (List D)} {E : α → D} {g : α → List D} : ∀ {l : List α}, (∀ x ∈ l, f (E x) = M.pure (g x)) → fCatM f (l.map E) = M.pure (l.map g).flatten
  | [], _ => rfl
  | x :: l, h => by
    rw [List.map_cons, fCatM, h x List.mem_cons_self, cat_of fun y hy => h y (List.mem_cons_of_mem _ hy)]
    rfl
theorem ls_nil (n : Nat) : List.replicate 0 n = [] := rfl
theorem ls_cons (f : α → β) (a : α) (l : List α) : (a :: l).map f = f a :: l.map f := rfl
theorem for_nil {σ : Type} (b : D → σ → (σ → M α) → M α) (st : σ) (k : σ → M α) : fFor b [] st k = k st := rfl
theorem for_cons {σ : Type} (b : D → σ → (σ → M α) → M α) (x : D) (xs : List D) (st : σ) (k : σ → M α) : fFor b (x :: xs) st k = b x st fun st' => fFor b xs st' k := rfl
end

theorem o_add (i j : Int) : addD (.int i) (.int j) = some (.int (i + j)) := rfl
theorem o_iadd (i j : Int) : iaddD (.int i) (.int j) = some (.int (i + j)) := rfl
theorem o_addT {l m : List D} (h : l.length + m.length ≤ 16777216) : addD (.tup l) (.tup m) = some (.tup (l ++ m)) := if_pos (by rw [sizeIs]; exact h)
theorem o_addL {l m : List D} (h : l.length + m.length ≤ 16777216) : addD (.lst l) (.lst m) = some (.lst (l ++ m)) := if_pos (by rw [sizeIs]; exact h)
theorem ix_tup (l : List D) (i : Int) : ixD (.tup l) (.int i) = atI l i := rfl
theorem ix_lst (l : List D) (i : Int) : ixD (.lst l) (.int i) = atI l i := rfl
theorem ix_scr (l : List Int) (i : Int) : ixD (.scr l) (.int i) = (atI l i).map D.int := rfl
theorem sl_tup (l : List D) (i j : Option Int) : slD (.tup l) i j = some (.tup (cutL l i j)) := rfl
theorem sl_lst (l : List D) (i j : Option Int) : slD (.lst l) i j = some (.lst (cutL l i j)) := rfl
theorem o_sub (i j : Int) : subD (.int i) (.int j) = some (.int (i - j)) := rfl
theorem o_mul {i j : Int} (h : CMul i j) : mulD (.int i) (.int j) = some (.int (i * j)) := if_pos h
theorem o_mulL {i j : Int} (h1 : -18446744073709551616 < i) (h2 : i < 18446744073709551616) : mulD (.int i) (.int j) = some (.int (i * j)) := o_mul (.inl ⟨h1, h2⟩)
theorem o_mulR {i j : Int} (h1 : -18446744073709551616 < j) (h2 : j < 18446744073709551616) : mulD (.int i) (.int j) = some (.int (i * j)) := o_mul (.inr ⟨h1, h2⟩)
theorem o_div {i j : Int} (h1 : 0 < j) (h2 : j < 1073741824) : fdivD (.int i) (.int j) = some (.int (i / j)) := if_pos (c := CDiv i j) ⟨h1, h2⟩
theorem o_mod {i j : Int} (h : 0 < j) : modD (.int i) (.int j) = some (.int (i % j)) := if_pos h
theorem o_lt (i j : Int) : ltD (.int i) (.int j) = some (.bl (decide (i < j))) := rfl
theorem o_le (i j : Int) : leD (.int i) (.int j) = some (.bl (decide (i ≤ j))) := rfl
theorem o_gt (i j : Int) : gtD (.int i) (.int j) = some (.bl (decide (j < i))) := rfl
theorem o_ge (i j : Int) : geD (.int i) (.int j) = some (.bl (decide (j ≤ i))) := rfl
theorem o_eq (i j : Int) : eqD (.int i) (.int j) = some (.bl (i == j)) := by unfold eqD; rw [if_pos (.inl rfl)]; unfold deq; rfl
theorem o_ne (i j : Int) : neD (.int i) (.int j) = some (.bl (!(i == j))) := by unfold neD; rw [if_pos (.inl rfl)]; unfold deq; rfl
theorem n_ot (b : Bool) : (!(!b)) = b := Bool.not_not b
theorem b_len_t (l : List D) : lenF [.tup l] = some (.int l.length) := rfl
theorem b_len_l (l : List D) : lenF [.lst l] = some (.int l.length) := rfl
theorem b_len_s (l : List Int) : lenF [.scr l] = some (.int l.length) := rfl
theorem b_abs (i : Int) : absF [.int i] = some (.int (if i < 0 then -i else i)) := rfl
theorem b_int_i (i : Int) : intF [.int i] = some (.int i) := rfl
theorem b_int_b (b : Bool) : intF [.bl b] = some (.int (if b then 1 else 0)) := rfl
theorem b_sum (l : List D) : sumF [.lst l] = (intsOf l).map fun ns => .int ns.sum := rfl
theorem b_all (l : List D) : allF [.lst l] = (blsOf l).map fun ns => .bl (ns.all id) := rfl
theorem b_any (l : List D) : anyF [.lst l] = (blsOf l).map fun ns => .bl (ns.any id) := rfl
theorem b_tup_l (l : List D) : tupF [.lst l] = some (.tup l) := rfl
theorem b_tup_t (l : List D) : tupF [.tup l] = some (.tup l) := rfl
theorem b_lst_l (l : List D) : lstF [.lst l] = some (.lst l) := rfl
theorem b_lst_t (l : List D) : lstF [.tup l] = some (.lst l) := rfl
theorem b_max2 (i j : Int) : maxF [.int i, .int j] = some (.int (max i j)) := rfl
theorem b_max3 (i j k : Int) : maxF [.int i, .int j, .int k] = some (.int (max (max i j) k)) := rfl
theorem b_min2 (i j : Int) : minF [.int i, .int j] = some (.int (min i j)) := rfl
theorem b_min3 (i j k : Int) : minF [.int i, .int j, .int k] = some (.int (min (min i j) k)) := rfl
theorem t_bl (b : Bool) : truD (.bl b) = some b := rfl
theorem t_int (i : Int) : truD (.int i) = some (i != 0) := rfl
theorem t_tup (l : List D) : truD (.tup l) = some (!l.isEmpty) := rfl
theorem t_lst (l : List D) : truD (.lst l) = some (!l.isEmpty) := rfl
theorem t_non : truD .non = some false := rfl
theorem isi_int' {d : D} (h : plainD d = true) : isiD "int" d = some (isiInt d) := isi_int h
theorem isi_bool' {d : D} (h : plainD d = true) : isiD "bool" d = some (isiBool d) := isi_bool h
theorem isi_tup' {d : D} (h : plainD d = true) : isiD "tuple" d = some (isiTup d) := isi_tup h
theorem isi_str' {d : D} (h : plainD d = true) : isiD "str" d = some (isiStr d) := isi_str h
theorem dn_non : isND .non .non = some (.bl true) := rfl
theorem dn_int (i : Int) : isND (.int i) .non = some (.bl false) := rfl
theorem dn_bl (i : Bool) : isND (.bl i) .non = some (.bl false) := rfl
theorem dn_str (i : Str) : isND (.str i) .non = some (.bl false) := rfl
theorem dn_tup (i : List D) : isND (.tup i) .non = some (.bl false) := rfl
theorem dnn_non : isNND .non .non = some (.bl false) := rfl
theorem dnn_int (i : Int) : isNND (.int i) .non = some (.bl true) := rfl
theorem dnn_bl (i : Bool) : isNND (.bl i) .non = some (.bl true) := rfl
theorem dnn_str (i : Str) : isNND (.str i) .non = some (.bl true) := rfl
theorem dnn_tup (i : List D) : isNND (.tup i) .non = some (.bl true) := rfl

theorem atI_of {α : Type} {xs : List α} {i : Int} {n : Nat} {x : α} (hi : i = n) (h : xs[n]? = some x) : atI xs i = some x := by subst hi; exact atI_nat h
theorem at0 (x : D) (l : List D) : atI (x :: l) 0 = some x := atI_of (n := 0) rfl rfl
theorem at1 (x y : D) (l : List D) : atI (x :: y :: l) 1 = some y := atI_of (n := 1) rfl rfl
theorem at2 (x y z : D) (l : List D) : atI (x :: y :: z :: l) 2 = some z := atI_of (n := 2) rfl rfl
theorem at3 (x y z u : D) (l : List D) : atI (x :: y :: z :: u :: l) 3 = some u := atI_of (n := 3) rfl rfl
theorem at4 (x y z u v : D) (l : List D) : atI (x :: y :: z :: u :: v :: l) 4 = some v := atI_of (n := 4) rfl rfl
theorem atI_mem {α : Type} {xs : List α} {i : Int} (h0 : 0 ≤ i) (h1 : i < xs.length) : ∃ x ∈ xs, atI xs i = some x := by
  have hk : i.toNat < xs.length := by omega
  exact ⟨xs[i.toNat], List.getElem_mem hk, atI_of (Int.toNat_of_nonneg h0).symm (List.getElem?_eq_getElem hk)⟩
theorem at_map {α : Type} {E : α → D} {xs : List α} {i : Int} {n : Nat} {x : α} (hi : i = n) (h : xs[n]? = some x) : atI (xs.map E) i = some (E x) := atI_of hi (by rw [List.getElem?_map, h]; rfl)
theorem cut_mid {α : Type} (xs : List α) (m n : Nat) : cutL xs (some (m : Int)) (some (n : Int)) = (xs.drop m).take (n - m) := by
  unfold cutL
  rw [HT.sIx_nat, HT.sIx_nat]
  by_cases h : m ≤ xs.length
  · rw [Nat.min_eq_left h, List.take_eq_take_iff, List.length_drop]; omega
  · have e : min m xs.length = xs.length := by omega
    rw [e, List.drop_of_length_le (Nat.le_refl _), List.drop_of_length_le (by omega)]; simp
theorem rng_A {j : Int} (h0 : 0 ≤ j) (h1 : j ≤ 16777216) : rngF [.int j] = some ((List.range j.toNat).map fun (k : Nat) => .int k) := if_pos ⟨by rw [sizeIs]; omega, by omega⟩

theorem ints_of {α : Type} (f : α → Int) (l : List α) : intsOf (l.map fun x => .int (f x)) = some (l.map f) := by
  have e : (l.map fun x => D.int (f x)) = (l.map f).map D.int := by rw [List.map_map]; rfl
  rw [e, intsOf_map]
theorem sum_bd {α : Type} {f : α → Int} {l : List α} {b : Int} (h : ∀ x ∈ l, 0 ≤ f x ∧ f x ≤ b) : 0 ≤ (l.map f).sum ∧ (l.map f).sum ≤ b * l.length := by
  induction l with
  | nil => simp
  | cons x l ih =>
    have h1 := h x List.mem_cons_self
    have h2 := ih fun y hy => h y (List.mem_cons_of_mem _ hy)
    simp only [List.map_cons, List.sum_cons, List.length_cons]
    have e : b * ((l.length + 1 : Nat) : Int) = b * l.length + b := by rw [Int.natCast_add, Int.mul_add]; simp
    omega

theorem o_neT {x y : D} (h : okd 40 x = true) (h' : okd 40 y = true) : neD x y = some (.bl (!deq x y)) := by unfold neD; rw [if_pos (.inr ⟨h, h'⟩)]
theorem o_eqT {x y : D} (h : okd 40 x = true) (h' : okd 40 y = true) : eqD x y = some (.bl (deq x y)) := by unfold eqD; rw [if_pos (.inr ⟨h, h'⟩)]
theorem okd_int (n : Nat) (i : Int) : okd n (.int i) = true := by unfold okd; rfl
theorem okd_tup (n : Nat) (l : List D) : okd (n + 1) (.tup l) = l.all (okd n) := by rw [okd]
theorem okd_lst (n : Nat) (l : List D) : okd (n + 1) (.lst l) = l.all (okd n) := by rw [okd]
mutual
theorem deq_self : ∀ d : D, ∀ n, okd n d = true → deq d d = true
  | .non, n, h => by unfold deq; rfl
  | .bl _, n, h => by unfold deq; simp
  | .int _, n, h => by unfold deq; simp
  | .str _, n, h => by unfold deq; simp
  | .tup l, 0, h => by simp [okd] at h
  | .tup l, n + 1, h => by unfold deq; rw [okd] at h; exact deqs_self l n h
  | .lst l, 0, h => by simp [okd] at h
  | .lst l, n + 1, h => by unfold deq; rw [okd] at h; exact deqs_self l n h
  | .scr _, n, h => by cases n <;> simp [okd] at h
  | .dk _, n, h => by cases n <;> simp [okd] at h
  | .dt _, n, h => by cases n <;> simp [okd] at h
  | .town, n, h => by cases n <;> simp [okd] at h
  | .fn _ _ _, n, h => by cases n <;> simp [okd] at h
  | .obj _, n, h => by cases n <;> simp [okd] at h
  | .exc _, n, h => by cases n <;> simp [okd] at h
  | .kt _, n, h => by cases n <;> simp [okd] at h
theorem deqs_self : ∀ (l : List D) (n : Nat), l.all (okd n) = true → deqs l l = true
  | [], _, _ => by unfold deqs; rfl
  | d :: l, n, h => by
    simp only [List.all_cons, Bool.and_eq_true] at h
    unfold deqs
    rw [deq_self d n h.1, deqs_self l n h.2]; rfl
end
theorem o_ne_self {x : D} (h : okd 40 x = true) : neD x x = some (.bl false) := by rw [o_neT h h, deq_self x 40 h]; rfl
theorem o_eq_self {x : D} (h : okd 40 x = true) : eqD x x = some (.bl true) := by rw [o_eqT h h, deq_self x 40 h]


def Dr {α : Type} (k : Nat) (m : M α) (P : α → Prop) : Prop := ∀ (t : List Int) (o : List (Option Ob)), t.length + k ≤ 900000 → ∃ a t' n, m ⟨some t, o⟩ = .ok a ⟨some t', o ++ n⟩ ∧ P a ∧ t'.length ≤ t.length + k
section
variable {α β : Type}
theorem Dr.of0 {k : Nat} {m : M α} {P : α → Prop} (h : ∀ (t : List Int) (o : List (Option Ob)), t.length + k ≤ 900000 → ∃ a t', m ⟨some t, o⟩ = .ok a ⟨some t', o⟩ ∧ P a ∧ t'.length ≤ t.length + k) : Dr k m P := fun t o ht => by
  obtain ⟨a, t', h1, h2, h3⟩ := h t o ht
  exact ⟨a, t', [], by rw [h1]; simp, h2, h3⟩
theorem Dr.pure {k : Nat} {a : α} {P : α → Prop} (h : P a) : Dr k (M.pure a) P := .of0 fun t o _ => ⟨a, t, rfl, h, by omega⟩
theorem Dr.bind {k j : Nat} {m : M α} {f : α → M β} {P : α → Prop} {Q : β → Prop} (h : Dr k m P) (hf : ∀ a, P a → Dr j (f a) Q) : Dr (k + j) (m.bind f) Q := fun t o ht => by
  obtain ⟨a, t1, n1, h1, h2, h3⟩ := h t o (by omega)
  obtain ⟨b, t2, n2, h4, h5, h6⟩ := hf a h2 t1 _ (by omega)
  refine ⟨b, t2, n1 ++ n2, ?_, h5, by omega⟩
  unfold M.bind
  rw [h1]
  show f a _ = _
  rw [h4, List.append_assoc]
theorem Dr.more {k j : Nat} {m : M α} {P : α → Prop} (h : Dr k m P) (l : k ≤ j) : Dr j m P := fun t o ht => by
  obtain ⟨a, t1, n1, h1, h2, h3⟩ := h t o (by omega)
  exact ⟨a, t1, n1, h1, h2, by omega⟩
theorem Dr.imp {k : Nat} {m : M α} {P Q : α → Prop} (h : Dr k m P) (f : ∀ a, P a → Q a) : Dr k m Q := fun t o ht => by
  obtain ⟨a, t1, n1, h1, h2, h3⟩ := h t o ht
  exact ⟨a, t1, n1, h1, f a h2, h3⟩
theorem Dr.then {K : Nat} {m : M α} {f : α → M β} {P : α → Prop} {Q : β → Prop} (k : Nat) (h : Dr k m P) (l : k ≤ K) (hf : ∀ a, P a → Dr (K - k) (f a) Q) : Dr K (m.bind f) Q := (Dr.bind h hf).more (by omega)
theorem Dr.noEx {k : Nat} {m : M α} {P : α → Prop} (h : Dr k m P) : Dr k (Pm.noEx m) P := fun t o ht => by
  obtain ⟨a, t1, n1, h1, h2⟩ := h t o ht
  exact ⟨a, t1, n1, by unfold Pm.noEx; rw [h1], h2⟩
theorem dr_for {σ : Type} {body : D → σ → (σ → M α) → M α} {P : α → Prop} (I : σ → Prop) (n j : Nat) (k : σ → M α) : ∀ (xs : List D), (∀ x ∈ xs, ∀ st i (k' : σ → M α), I st → (∀ st', I st' → Dr i (k' st') P) → Dr (n + i) (body x st k') P) → ∀ st, I st → (∀ st', I st' → Dr j (k st') P) → Dr (n * xs.length + j) (fFor body xs st k) P
  | [], _, st, h0, hk => by rw [List.length_nil, Nat.mul_zero, Nat.zero_add]; exact hk st h0
  | x :: xs, hb, st, h0, hk => by
    have e : n * (x :: xs).length + j = n + (n * xs.length + j) := by rw [List.length_cons, Nat.mul_succ]; omega
    rw [e]
    exact hb x List.mem_cons_self st _ _ h0 fun st' h' => dr_for I n j k xs (fun y hy => hb y (List.mem_cons_of_mem _ hy)) st' h' hk
theorem dr_map {f : D → M D} {P : D → Prop} (n : Nat) : ∀ (xs : List D), (∀ x ∈ xs, Dr n (f x) P) → Dr (n * xs.length) (fMapM f xs) (fun l => l.length = xs.length ∧ ∀ y ∈ l, P y)
  | [], _ => Dr.pure ⟨rfl, fun y h => nomatch h⟩
  | x :: xs, h => by
    have e : n * (x :: xs).length = n + (n * xs.length + 0) := by rw [List.length_cons, Nat.mul_succ]; omega
    rw [e]
    refine Dr.bind (h x List.mem_cons_self).noEx fun a ha => Dr.bind (dr_map n xs fun y hy => h y (List.mem_cons_of_mem _ hy)) fun l ⟨h1, h2⟩ => Dr.pure ⟨by simp [h1], fun y hy => ?_⟩
    rcases List.mem_cons.mp hy with rfl | hy
    · exact ha
    · exact h2 y hy
end
end Pm
noncomputable section
namespace Pm
open PySem PySem.Spec PyProof.Rows L2
def j1__law_draw (_law_script_ : D) (_law_town_ : D) (_law_many_ : D) : M D :=
  (M.bind (twTru _law_town_) fun _ => M.bind (M.pure (D.int 0)) fun a2_ => M.bind (twApp _law_town_ a2_) fun _ =>
  (M.bind ((M.pure _law_town_).bind twLen) fun _law_k_ =>
  (M.bind (fIf (fTru (M.pure _law_script_)) (fBin ixD (M.pure _law_script_) (fBin modD (M.pure _law_k_) (fCB lenF (fCons (M.pure _law_script_) fNil)))) (M.pure (D.int 0))) fun _law_cell_ =>
  (M.bind (fBin modD ((M.pure _law_town_).bind twAt0) (M.pure (D.int 65536))) fun _law_digits_ =>
  (M.bind (fBin fdivD ((M.pure _law_town_).bind twAt0) (M.pure (D.int 65536))) fun a3_ => M.bind (twSet0 _law_town_ a3_) fun _ =>
  (M.bind (fBin modD (fBin addD (fBin addD (M.pure _law_cell_) (fBin mulD (M.pure (D.int 40503)) (M.pure _law_digits_))) (fBin mulD (M.pure (D.int 104729)) (M.pure _law_k_))) (M.pure (D.int 4294967291))) fun _law_number_ =>
  (M.bind (fBin modD (fBin mulD (fBin modD (fBin mulD (M.pure _law_number_) (M.pure _law_number_)) (M.pure (D.int 4294967279))) (M.pure (D.int 48271))) (M.pure (D.int 4294967291))) fun _law_number_ =>
  (M.bind (fBin modD (fBin mulD (fBin modD (fBin mulD (M.pure _law_number_) (M.pure _law_number_)) (M.pure (D.int 4294967279))) (M.pure (D.int 69621))) (M.pure (D.int 4294967291))) fun _law_more_ =>
  (fBin modD (fBin addD (fBin mulD (fBin fdivD (M.pure _law_number_) (M.pure (D.int 64))) (M.pure (D.int 67108864))) (fBin fdivD (M.pure _law_more_) (M.pure (D.int 64)))) (M.pure _law_many_))))))))))
def p__law_draw (_law_script_ : D) (_law_town_ : D) (_law_many_ : D) : M D :=
  (fIf (fNotB ((M.pure _law_town_).bind twTru))
  (M.bind (twTru _law_town_) fun _ => M.bind (fCB maxF (fCons (fBin addD (fLC (fItems (M.pure _law_script_)) fun _law_cell_ => (fCB absF (fCons (M.pure _law_cell_) fNil))) (fLst (fCons (M.pure (D.int 0)) fNil))) fNil)) fun a1_ => M.bind (twApp _law_town_ a1_) fun _ =>
  (j1__law_draw _law_script_ _law_town_ _law_many_))
  (j1__law_draw _law_script_ _law_town_ _law_many_))
def m__law_draw : Mf := fun ds => match ds with
  | [_law_script_, _law_town_, _law_many_] => p__law_draw _law_script_ _law_town_ _law_many_
  | _ => M.bad
def p__law_pick (_law_script_ : D) (_law_town_ : D) (_law_some_ : D) : M D :=
  (fBin ixD (M.pure _law_some_) (fCall m__law_draw (fCons (M.pure _law_script_) (fCons (M.pure _law_town_) (fCons (fCB lenF (fCons (M.pure _law_some_) fNil)) fNil)))))
def m__law_pick : Mf := fun ds => match ds with
  | [_law_script_, _law_town_, _law_some_] => p__law_pick _law_script_ _law_town_ _law_some_
  | _ => M.bad
def p__law_drawn_colour (_law_script_ : D) (_law_town_ : D) : M D :=
  (M.bind (fLst (fCons (M.pure (D.int 0)) (fCons (M.pure (D.int 255)) (fCons (fCall m__law_draw (fCons (M.pure _law_script_) (fCons (M.pure _law_town_) (fCons (M.pure (D.int 256)) fNil)))) (fCons (fCall m__law_draw (fCons (M.pure _law_script_) (fCons (M.pure _law_town_) (fCons (M.pure (D.int 256)) fNil)))) fNil))))) fun _law_some_ =>
  (M.bind (fLC (fRng (fCons (M.pure (D.int 3)) fNil)) fun _law_k_ => (fCall m__law_pick (fCons (M.pure _law_script_) (fCons (M.pure _law_town_) (fCons (M.pure _law_some_) fNil))))) fun _law_parts_ =>
  (fTup (fCons (fBin ixD (M.pure _law_parts_) (M.pure (D.int 0))) (fCons (fBin ixD (M.pure _law_parts_) (M.pure (D.int 1))) (fCons (fBin ixD (M.pure _law_parts_) (M.pure (D.int 2))) (fCons (fCall m__law_pick (fCons (M.pure _law_script_) (fCons (M.pure _law_town_) (fCons (fLst (fCons (M.pure (D.int 255)) (fCons (M.pure (D.int 255)) (fCons (M.pure (D.int 0)) (fCons (fCall m__law_draw (fCons (M.pure _law_script_) (fCons (M.pure _law_town_) (fCons (M.pure (D.int 256)) fNil)))) fNil))))) fNil)))) fNil)))))))
def m__law_drawn_colour : Mf := fun ds => match ds with
  | [_law_script_, _law_town_] => p__law_drawn_colour _law_script_ _law_town_
  | _ => M.bad
def p_rounded (one_ : D) (by_ : D) : M D :=
  (fBin fdivD (fBin addD (fBin mulD (M.pure (D.int 2)) (M.pure one_)) (M.pure by_)) (fBin mulD (M.pure (D.int 2)) (M.pure by_)))
def m_rounded : Mf := fun ds => match ds with
  | [one_, by_] => p_rounded one_ by_
  | _ => M.bad
def p_faded (colour_ : D) (share_ : D) : M D :=
  (fBin addD (fSl (M.pure colour_) fONo (fOSo (M.pure (D.int 3)))) (fTup (fCons (fCall m_rounded (fCons (fBin mulD (fBin ixD (M.pure colour_) (M.pure (D.int 3))) (M.pure share_)) (fCons (M.pure (D.int 255)) fNil))) fNil)))
def m_faded : Mf := fun ds => match ds with
  | [colour_, share_] => p_faded colour_ share_
  | _ => M.bad
def p_distance (one_ : D) (other_ : D) : M D :=
  (fCB sumF (fCons (fLC (fZip (fCons (M.pure one_) (fCons (M.pure other_) fNil))) fun it1_ => (fU2 it1_ fun left_ right_ => (fBin mulD (fBin subD (M.pure left_) (M.pure right_)) (fBin subD (M.pure left_) (M.pure right_))))) fNil))
def m_distance : Mf := fun ds => match ds with
  | [one_, other_] => p_distance one_ other_
  | _ => M.bad
def p_laid_over (top_ : D) (bottom_ : D) : M D :=
  (M.bind (fTup (fCons (fBin mulD (M.pure (D.int 255)) (fBin ixD (M.pure top_) (M.pure (D.int 3)))) (fCons (fBin mulD (fBin ixD (M.pure bottom_) (M.pure (D.int 3))) (fBin subD (M.pure (D.int 255)) (fBin ixD (M.pure top_) (M.pure (D.int 3))))) fNil))) fun it1_ => (fU2 it1_ fun high_ low_ => 
  (M.bind (fBin addD (M.pure high_) (M.pure low_)) fun whole_ =>
  (fIf (fOf (fBin eqD (M.pure whole_) (M.pure (D.int 0))))
  (M.pure ((.tup [(.int 0), (.int 0), (.int 0), (.int 0)]) : D))
  (M.bind (fLC (fZip (fCons (fSl (M.pure top_) fONo (fOSo (M.pure (D.int 3)))) (fCons (fSl (M.pure bottom_) fONo (fOSo (M.pure (D.int 3)))) fNil))) fun it2_ => (fU2 it2_ fun left_ right_ => (fCall m_rounded (fCons (fBin addD (fBin mulD (M.pure high_) (M.pure left_)) (fBin mulD (M.pure low_) (M.pure right_))) (fCons (M.pure whole_) fNil))))) fun parts_ =>
  (fTup (fCons (fBin ixD (M.pure parts_) (M.pure (D.int 0))) (fCons (fBin ixD (M.pure parts_) (M.pure (D.int 1))) (fCons (fBin ixD (M.pure parts_) (M.pure (D.int 2))) (fCons (fCall m_rounded (fCons (M.pure whole_) (fCons (M.pure (D.int 255)) fNil))) fNil))))))))))
def m_laid_over : Mf := fun ds => match ds with
  | [top_, bottom_] => p_laid_over top_ bottom_
  | _ => M.bad

theorem maxE (ns : List Int) : maxF [.lst (ns.map (fun n => D.int (if n < 0 then -n else n)) ++ [.int 0])] = some (.int ((ns.map (fun n => if n < 0 then -n else n) ++ [0]).tail.foldl max ((ns.map (fun n => if n < 0 then -n else n) ++ [0]).headD 0))) := by
  have e : ns.map (fun n => D.int (if n < 0 then -n else n)) ++ [.int 0] = (ns.map (fun n => if n < 0 then -n else n) ++ [0]).map D.int := by simp
  rw [e]
  unfold maxF bigF
  simp only [intsOf_map]
  cases ns <;> rfl
theorem draw_tail (o : List (Option Ob)) (ns t : List Int) (many : Int) (hm : 0 < many) (x0 : Int) (hl : t.length < 1000000) (hx : t[0]? = some x0) : ∃ r t', j1__law_draw (.scr ns) .town (.int many) ⟨some t, o⟩ = .ok (.int r) ⟨some t', o⟩ ∧ 0 ≤ r ∧ r < many ∧ t'.length = t.length + 1 := by
  obtain ⟨y, t, rfl⟩ : ∃ y t', t = y :: t' := by cases t with | nil => cases hx | cons y t => exact ⟨y, t, rfl⟩
  have c : ∃ c, ∀ k : Int, k = ((y :: t) ++ [0]).length → (fIf (fTru (M.pure (.scr ns))) (fBin ixD (M.pure (.scr ns)) (fBin modD (M.pure (.int k)) (fCB lenF (fCons (M.pure (.scr ns)) fNil)))) (M.pure (.int 0))) = M.pure (.int c) := by
    cases ns with
    | nil => exact ⟨0, fun _ _ => rfl⟩
    | cons n r =>
      have hp : (0 : Int) < ((n :: r).length : Nat) := by simp only [List.length_cons]; omega
      have b1 := Int.emod_nonneg (((y :: t) ++ [0]).length : Int) (Int.ne_of_gt hp)
      have b2 := Int.emod_lt_of_pos (((y :: t) ++ [0]).length : Int) hp
      have hk : ((((y :: t) ++ [0]).length : Int) % ((n :: r).length : Nat)).toNat < (n :: r).length := by omega
      refine ⟨(n :: r)[((((y :: t) ++ [0]).length : Int) % ((n :: r).length : Nat)).toNat], fun k e => ?_⟩
      subst e
      have q : atI (n :: r) (((((y :: t) ++ [0]).length : Nat) : Int) % ((n :: r).length : Nat)) = some _ := atI_of (Int.toNat_of_nonneg b1).symm (List.getElem?_eq_getElem hk)
      rw [f_tru, f_nil, f_cons, f_cb, b_len_s, opt_some, f_bin, o_mod hp, opt_some, f_bin, ix_scr, q]
      rfl
  obtain ⟨c, hc⟩ := c
  have hz : (y :: t).length < sizeLine := by rw [sizeIs]; omega
  have hd : 0 < many := hm
  unfold j1__law_draw
  have s1 : twTru .town ⟨some (y :: t), o⟩ = .ok true ⟨some (y :: t), o⟩ := rfl
  have s2 : twApp .town (.int 0) ⟨some (y :: t), o⟩ = .ok .non ⟨some ((y :: t) ++ [0]), o⟩ := by unfold twApp; simp only; rw [if_pos hz]
  have s3 : twLen .town ⟨some ((y :: t) ++ [0]), o⟩ = .ok (.int ((y :: t) ++ [0]).length) ⟨some ((y :: t) ++ [0]), o⟩ := rfl
  have s4 : twAt0 .town ⟨some ((y :: t) ++ [0]), o⟩ = .ok (.int y) ⟨some ((y :: t) ++ [0]), o⟩ := rfl
  have s5 : ∀ v, twSet0 .town (.int v) ⟨some ((y :: t) ++ [0]), o⟩ = .ok .non ⟨some (v :: (t ++ [0])), o⟩ := fun v => rfl
  have ev : ∀ {α β : Type} (m : M α) (f : α → M β) (w w' : W) (a : α), m w = .ok a w' → M.bind m f w = f a w' := fun m f w w' a h => by unfold M.bind; rw [h]
  have t4 : fBin modD ((M.pure D.town).bind twAt0) (M.pure (.int 65536)) ⟨some ((y :: t) ++ [0]), o⟩ = .ok (.int (y % 65536)) ⟨some ((y :: t) ++ [0]), o⟩ := by
    unfold fBin; rw [pure_bind, ev _ _ _ _ _ s4, pure_bind, o_mod (by decide)]; rfl
  have t5 : fBin fdivD ((M.pure D.town).bind twAt0) (M.pure (.int 65536)) ⟨some ((y :: t) ++ [0]), o⟩ = .ok (.int (y / 65536)) ⟨some ((y :: t) ++ [0]), o⟩ := by
    unfold fBin; rw [pure_bind, ev _ _ _ _ _ s4, pure_bind, o_div (by decide) (by decide)]; rfl
  rw [ev _ _ _ _ _ s1, pure_bind, ev _ _ _ _ _ s2, pure_bind, ev _ _ _ _ _ s3, hc _ rfl, pure_bind, ev _ _ _ _ _ t4, ev _ _ _ _ _ t5, ev _ _ _ _ _ (s5 _)]
  simp (config := { maxSteps := 3000000 }) (disch := first | omega | (simp only [List.length_map, List.length_cons, List.length_nil, List.length_append, List.length_replicate, List.length_set, List.length_range, nts_len, List.length_take, List.length_drop]; omega) | kernel_rfl) only [in_int, ng_int, mx_nil, mx_cons, o_ne_self, o_eq_self, ls_lst, Pm.pure_bind, bad_bind, raise_bind, opt_some, opt_none, Pm.bind_assoc, Pm.bind_pure, f_bin, f_nil, f_cons, f_tup, f_lst, f_call, f_cb, f_if, f_of, f_ofv, f_tru, f_andB, f_orB, f_notB, f_and, f_or, f_not, f_neg, f_chain, f_sl, f_ono, f_oso, f_items, f_zip, f_enum, f_rng, f_lc, f_lcf, f_lc2, f_in, f_lz, f_app, f_ext, f_seti, f_isi, f_u2, f_u3, f_u4, i_tup, i_lst, z_tup, z_lst, zl_nil, zl_cons, en_tup, en_lst, en_nil, en_cons, x_nil, x_cons, x_map, x_pure, xf_nil, xf_cons, xc_nil, xc_cons, noEx_pure, o_add, o_sub, o_lt, o_le, o_gt, o_ge, o_eq, o_ne, o_mulL, o_mulR, o_div, o_mod, o_addT, o_addL, o_iadd, Pm.ix_tup, ix_lst, Pm.sl_tup, sl_lst, b_len_t, b_len_l, b_abs, b_int_i, b_int_b, b_sum, b_all, b_any, b_tup_l, b_tup_t, b_lst_l, b_lst_t, b_max2, b_max3, b_min2, b_min3, t_bl, t_int, t_tup, t_lst, t_non, a_app, a_ext, bl_bl, decide_true, decide_false, Bool.not_true, Bool.not_false, if_true, if_false, Bool.false_eq_true, for_nil, for_cons, ls_cons, ls_nil, at0, at1, at2, at3, at4, List.cons_append, List.nil_append, List.length_cons, List.length_nil, List.length_map, n_ot, isi_int', isi_bool', isi_tup', isi_str', dn_non, dn_int, dn_tup, dn_str, dn_bl, dnn_non, dnn_int, dnn_tup, dnn_str, dnn_bl, decide_eq_true_eq, fBin, fCons, fTup, fLst, fCall, fCB, fIf, fOf, fTru, fAndB, fOrB, fNotB, fAnd, fOr, fNot, fNeg, fChain, fSl, fOSo, fItems, fZip, fEnum, fRng, fLC, fLCf, fLC2, fIn, fLz, fApp, fExt, fSetI, fIsi]
  refine ⟨_, _, rfl, Int.emod_nonneg _ (by omega), Int.emod_lt_of_pos _ hm, by simp⟩
theorem scr_abs (ns : List Int) (hn : ns.length ≤ 63) : fLC (fItems (M.pure (.scr ns))) (fun _law_cell_ => (fCB absF (fCons (M.pure _law_cell_) fNil))) = M.pure (.lst (ns.map fun n => .int (if n < 0 then -n else n))) := by
  have e : itemsD (.scr ns) = some (ns.map D.int) := if_pos (by rw [sizeIs]; omega)
  rw [f_items, e, opt_some, f_lc, map_of (f := fun _law_cell_ => fCB absF (fCons (M.pure _law_cell_) fNil)) (E := D.int) (g := fun n => .int (if n < 0 then -n else n)) (l := ns) (fun x _ => rfl)]
  rfl
theorem dr_draw {ns : List Int} {many : Int} (hn : ns.length ≤ 63) (hm : 0 < many) : Dr 2 (m__law_draw [.scr ns, .town, .int many]) (fun d => ∃ r, d = .int r ∧ 0 ≤ r ∧ r < many) := .of0 fun t o ht => by
  have ev : ∀ {α β : Type} (m : M α) (f : α → M β) (w w' : W) (a : α), m w = .ok a w' → M.bind m f w = f a w' := fun m f w w' a h => by unfold M.bind; rw [h]
  show ∃ a t', p__law_draw (.scr ns) .town (.int many) ⟨some t, o⟩ = .ok a ⟨some t', o⟩ ∧ _
  unfold p__law_draw
  cases t with
  | cons x t =>
    obtain ⟨r, t', h1, h2, h3, h4⟩ := draw_tail o ns (x :: t) many hm x (by simp at ht ⊢; omega) rfl
    refine ⟨.int r, t', ?_, ⟨r, rfl, h2, h3⟩, by omega⟩
    have s1 : fNotB ((M.pure D.town).bind twTru) ⟨some (x :: t), o⟩ = .ok false ⟨some (x :: t), o⟩ := rfl
    unfold fIf
    rw [ev _ _ _ _ _ s1]
    exact h1
  | nil =>
    have s1 : fNotB ((M.pure D.town).bind twTru) ⟨some [], o⟩ = .ok true ⟨some [], o⟩ := rfl
    have s2 : twTru .town ⟨some [], o⟩ = .ok false ⟨some [], o⟩ := rfl
    unfold fIf
    rw [ev _ _ _ _ _ s1, if_pos rfl, ev _ _ _ _ _ s2, scr_abs ns hn]
    have e : fBin addD (M.pure (.lst (ns.map fun n => .int (if n < 0 then -n else n)))) (fLst (fCons (M.pure (.int 0)) fNil)) = M.pure (.lst ((ns.map fun n => .int (if n < 0 then -n else n)) ++ [.int 0])) := by
      rw [f_nil, f_cons, f_lst, f_bin, o_addL (by simp; omega)]; rfl
    rw [e, f_nil, f_cons, f_cb, maxE, opt_some, pure_bind]
    obtain ⟨r, t', h1, h2, h3, h4⟩ := draw_tail o ns [(ns.map (fun n => if n < 0 then -n else n) ++ [0]).tail.foldl max ((ns.map (fun n => if n < 0 then -n else n) ++ [0]).headD 0)] many hm _ (by simp) rfl
    refine ⟨.int r, t', ?_, ⟨r, rfl, h2, h3⟩, by simp at h4 ⊢; omega⟩
    rw [ev _ _ ⟨some [], o⟩ ⟨some [(ns.map (fun n => if n < 0 then -n else n) ++ [0]).tail.foldl max ((ns.map (fun n => if n < 0 then -n else n) ++ [0]).headD 0)], o⟩ .non (by
      unfold twApp; simp only; rw [if_pos (by rw [sizeIs]; simp)]; rfl)]
    exact h1
theorem dr_pick {ns : List Int} {l : List D} (hn : ns.length ≤ 63) (hl : l ≠ []) : Dr 2 (m__law_pick [.scr ns, .town, .lst l]) (fun d => d ∈ l) := by
  show Dr 2 (p__law_pick (.scr ns) .town (.lst l)) _
  unfold p__law_pick
  simp only [in_int, ng_int, mx_nil, mx_cons, o_ne_self, o_eq_self, ls_lst, Pm.pure_bind, bad_bind, raise_bind, opt_some, opt_none, Pm.bind_assoc, Pm.bind_pure, f_bin, f_nil, f_cons, f_tup, f_lst, f_call, f_cb, f_if, f_of, f_ofv, f_tru, f_andB, f_orB, f_notB, f_and, f_or, f_not, f_neg, f_chain, f_sl, f_ono, f_oso, f_items, f_zip, f_enum, f_rng, f_lc, f_lcf, f_lc2, f_in, f_lz, f_app, f_ext, f_seti, f_isi, f_u2, f_u3, f_u4, i_tup, i_lst, z_tup, z_lst, zl_nil, zl_cons, en_tup, en_lst, en_nil, en_cons, x_nil, x_cons, x_map, x_pure, xf_nil, xf_cons, xc_nil, xc_cons, noEx_pure, o_add, o_sub, o_lt, o_le, o_gt, o_ge, o_eq, o_ne, o_mulL, o_mulR, o_div, o_mod, o_addT, o_addL, o_iadd, Pm.ix_tup, ix_lst, Pm.sl_tup, sl_lst, b_len_t, b_len_l, b_abs, b_int_i, b_int_b, b_sum, b_all, b_any, b_tup_l, b_tup_t, b_lst_l, b_lst_t, b_max2, b_max3, b_min2, b_min3, t_bl, t_int, t_tup, t_lst, t_non, a_app, a_ext, bl_bl, decide_true, decide_false, Bool.not_true, Bool.not_false, if_true, if_false, Bool.false_eq_true, for_nil, for_cons, ls_cons, ls_nil, at0, at1, at2, at3, at4, List.cons_append, List.nil_append, List.length_cons, List.length_nil, List.length_map, n_ot, isi_int', isi_bool', isi_tup', isi_str', dn_non, dn_int, dn_tup, dn_str, dn_bl, dnn_non, dnn_int, dnn_tup, dnn_str, dnn_bl, decide_eq_true_eq, fBin, fCons, fTup, fLst, fCall, fCB, fIf, fOf, fTru, fAndB, fOrB, fNotB, fAnd, fOr, fNot, fNeg, fChain, fSl, fOSo, fItems, fZip, fEnum, fRng, fLC, fLCf, fLC2, fIn, fLz, fApp, fExt, fSetI, fIsi]
  have hp0 : (0 : Int) < l.length := by cases l with | nil => exact absurd rfl hl | cons => simp only [List.length_cons]; omega
  refine Dr.then 2 (dr_draw hn hp0) (by omega) fun d ⟨r, e, h1, h2⟩ => ?_
  subst e
  obtain ⟨x, hx, q⟩ := atI_mem h1 h2
  rw [ix_lst, q]
  exact Dr.pure hx

abbrev C4 := Int × Int × Int × Int
def col (c : C4) : D := .tup [.int c.1, .int c.2.1, .int c.2.2.1, .int c.2.2.2]
def okc (c : C4) : Prop := (0 ≤ c.1 ∧ c.1 ≤ 255) ∧ (0 ≤ c.2.1 ∧ c.2.1 ≤ 255) ∧ (0 ≤ c.2.2.1 ∧ c.2.2.1 ≤ 255) ∧ 0 ≤ c.2.2.2 ∧ c.2.2.2 ≤ 255
def IsPart (d : D) : Prop := ∃ r : Int, d = .int r ∧ 0 ≤ r ∧ r ≤ 255
theorem dr_colour {ns : List Int} (hn : ns.length ≤ 63) : Dr 14 (m__law_drawn_colour [.scr ns, .town]) (fun d => ∃ c, d = col c ∧ okc c) := by
  show Dr 14 (p__law_drawn_colour (.scr ns) .town) _
  unfold p__law_drawn_colour
  simp only [in_int, ng_int, mx_nil, mx_cons, o_ne_self, o_eq_self, ls_lst, Pm.pure_bind, bad_bind, raise_bind, opt_some, opt_none, Pm.bind_assoc, Pm.bind_pure, f_bin, f_nil, f_cons, f_tup, f_lst, f_call, f_cb, f_if, f_of, f_ofv, f_tru, f_andB, f_orB, f_notB, f_and, f_or, f_not, f_neg, f_chain, f_sl, f_ono, f_oso, f_items, f_zip, f_enum, f_rng, f_lc, f_lcf, f_lc2, f_in, f_lz, f_app, f_ext, f_seti, f_isi, f_u2, f_u3, f_u4, i_tup, i_lst, z_tup, z_lst, zl_nil, zl_cons, en_tup, en_lst, en_nil, en_cons, x_nil, x_cons, x_map, x_pure, xf_nil, xf_cons, xc_nil, xc_cons, noEx_pure, o_add, o_sub, o_lt, o_le, o_gt, o_ge, o_eq, o_ne, o_mulL, o_mulR, o_div, o_mod, o_addT, o_addL, o_iadd, Pm.ix_tup, ix_lst, Pm.sl_tup, sl_lst, b_len_t, b_len_l, b_abs, b_int_i, b_int_b, b_sum, b_all, b_any, b_tup_l, b_tup_t, b_lst_l, b_lst_t, b_max2, b_max3, b_min2, b_min3, t_bl, t_int, t_tup, t_lst, t_non, a_app, a_ext, bl_bl, decide_true, decide_false, Bool.not_true, Bool.not_false, if_true, if_false, Bool.false_eq_true, for_nil, for_cons, ls_cons, ls_nil, at0, at1, at2, at3, at4, List.cons_append, List.nil_append, List.length_cons, List.length_nil, List.length_map, n_ot, isi_int', isi_bool', isi_tup', isi_str', dn_non, dn_int, dn_tup, dn_str, dn_bl, dnn_non, dnn_int, dnn_tup, dnn_str, dnn_bl, decide_eq_true_eq, fBin, fCons, fTup, fLst, fCall, fCB, fIf, fOf, fTru, fAndB, fOrB, fNotB, fAnd, fOr, fNot, fNeg, fChain, fSl, fOSo, fItems, fZip, fEnum, fRng, fLC, fLCf, fLC2, fIn, fLz, fApp, fExt, fSetI, fIsi]
  refine Dr.then 2 (dr_draw hn (by decide)) (by omega) fun d ⟨r1, e, a1, a2⟩ => ?_
  subst e
  refine Dr.then 2 (dr_draw hn (by decide)) (by omega) fun d ⟨r2, e, b1, b2⟩ => ?_
  subst e
  rw [show rngF [D.int 3] = some [.int 0, .int 1, .int 2] from rng_A (by decide) (by decide)]
  simp only [in_int, ng_int, mx_nil, mx_cons, o_ne_self, o_eq_self, ls_lst, Pm.pure_bind, bad_bind, raise_bind, opt_some, opt_none, Pm.bind_assoc, Pm.bind_pure, f_bin, f_nil, f_cons, f_tup, f_lst, f_call, f_cb, f_if, f_of, f_ofv, f_tru, f_andB, f_orB, f_notB, f_and, f_or, f_not, f_neg, f_chain, f_sl, f_ono, f_oso, f_items, f_zip, f_enum, f_rng, f_lc, f_lcf, f_lc2, f_in, f_lz, f_app, f_ext, f_seti, f_isi, f_u2, f_u3, f_u4, i_tup, i_lst, z_tup, z_lst, zl_nil, zl_cons, en_tup, en_lst, en_nil, en_cons, x_nil, x_cons, x_map, x_pure, xf_nil, xf_cons, xc_nil, xc_cons, noEx_pure, o_add, o_sub, o_lt, o_le, o_gt, o_ge, o_eq, o_ne, o_mulL, o_mulR, o_div, o_mod, o_addT, o_addL, o_iadd, Pm.ix_tup, ix_lst, Pm.sl_tup, sl_lst, b_len_t, b_len_l, b_abs, b_int_i, b_int_b, b_sum, b_all, b_any, b_tup_l, b_tup_t, b_lst_l, b_lst_t, b_max2, b_max3, b_min2, b_min3, t_bl, t_int, t_tup, t_lst, t_non, a_app, a_ext, bl_bl, decide_true, decide_false, Bool.not_true, Bool.not_false, if_true, if_false, Bool.false_eq_true, for_nil, for_cons, ls_cons, ls_nil, at0, at1, at2, at3, at4, List.cons_append, List.nil_append, List.length_cons, List.length_nil, List.length_map, n_ot, isi_int', isi_bool', isi_tup', isi_str', dn_non, dn_int, dn_tup, dn_str, dn_bl, dnn_non, dnn_int, dnn_tup, dnn_str, dnn_bl, decide_eq_true_eq, fBin, fCons, fTup, fLst, fCall, fCB, fIf, fOf, fTru, fAndB, fOrB, fNotB, fAnd, fOr, fNot, fNeg, fChain, fSl, fOSo, fItems, fZip, fEnum, fRng, fLC, fLCf, fLC2, fIn, fLz, fApp, fExt, fSetI, fIsi]
  have hs : ∀ x ∈ [D.int 0, .int 255, .int r1, .int r2], IsPart x := by
    intro x hx
    simp only [List.mem_cons, List.not_mem_nil, or_false] at hx
    rcases hx with rfl | rfl | rfl | rfl
    · exact ⟨0, rfl, by decide, by decide⟩
    · exact ⟨255, rfl, by decide, by decide⟩
    · exact ⟨r1, rfl, by omega, by omega⟩
    · exact ⟨r2, rfl, by omega, by omega⟩
  refine Dr.then 2 (dr_pick hn (by simp)).noEx (by omega) fun d hd => ?_
  obtain ⟨x1, rfl, c1⟩ := hs d hd
  refine Dr.then 2 (dr_pick hn (by simp)).noEx (by omega) fun d hd => ?_
  obtain ⟨x2, rfl, c2⟩ := hs d hd
  refine Dr.then 2 (dr_pick hn (by simp)).noEx (by omega) fun d hd => ?_
  obtain ⟨x3, rfl, c3⟩ := hs d hd
  refine Dr.then 2 (dr_draw hn (by decide)) (by omega) fun d ⟨r4, e, g1, g2⟩ => ?_
  subst e
  refine Dr.then 2 (dr_pick hn (by simp)) (by omega) fun d hd => ?_
  have hx : IsPart d := by
    simp only [List.mem_cons, List.not_mem_nil, or_false] at hd
    rcases hd with rfl | rfl | rfl | rfl
    · exact ⟨255, rfl, by decide, by decide⟩
    · exact ⟨255, rfl, by decide, by decide⟩
    · exact ⟨0, rfl, by decide, by decide⟩
    · exact ⟨r4, rfl, by omega, by omega⟩
  obtain ⟨x4, rfl, c4⟩ := hx
  exact Dr.pure ⟨(x1, x2, x3, x4), rfl, c1, c2, c3, c4⟩

def rnd (a b : Int) : Int := (2 * a + b) / (2 * b)
theorem rounded_eq {a b : Int} (h1 : 0 < b) (h2 : b < 500000000) : m_rounded [.int a, .int b] = M.pure (.int (rnd a b)) := by
  show p_rounded (.int a) (.int b) = _
  unfold p_rounded
  simp (config := { maxSteps := 3000000 }) (disch := first | omega | (simp only [List.length_map, List.length_cons, List.length_nil, List.length_append, List.length_replicate, List.length_set, List.length_range, nts_len, List.length_take, List.length_drop]; omega) | kernel_rfl) only [in_int, ng_int, mx_nil, mx_cons, o_ne_self, o_eq_self, ls_lst, Pm.pure_bind, bad_bind, raise_bind, opt_some, opt_none, Pm.bind_assoc, Pm.bind_pure, f_bin, f_nil, f_cons, f_tup, f_lst, f_call, f_cb, f_if, f_of, f_ofv, f_tru, f_andB, f_orB, f_notB, f_and, f_or, f_not, f_neg, f_chain, f_sl, f_ono, f_oso, f_items, f_zip, f_enum, f_rng, f_lc, f_lcf, f_lc2, f_in, f_lz, f_app, f_ext, f_seti, f_isi, f_u2, f_u3, f_u4, i_tup, i_lst, z_tup, z_lst, zl_nil, zl_cons, en_tup, en_lst, en_nil, en_cons, x_nil, x_cons, x_map, x_pure, xf_nil, xf_cons, xc_nil, xc_cons, noEx_pure, o_add, o_sub, o_lt, o_le, o_gt, o_ge, o_eq, o_ne, o_mulL, o_mulR, o_div, o_mod, o_addT, o_addL, o_iadd, Pm.ix_tup, ix_lst, Pm.sl_tup, sl_lst, b_len_t, b_len_l, b_abs, b_int_i, b_int_b, b_sum, b_all, b_any, b_tup_l, b_tup_t, b_lst_l, b_lst_t, b_max2, b_max3, b_min2, b_min3, t_bl, t_int, t_tup, t_lst, t_non, a_app, a_ext, bl_bl, decide_true, decide_false, Bool.not_true, Bool.not_false, if_true, if_false, Bool.false_eq_true, for_nil, for_cons, ls_cons, ls_nil, at0, at1, at2, at3, at4, List.cons_append, List.nil_append, List.length_cons, List.length_nil, List.length_map, n_ot, isi_int', isi_bool', isi_tup', isi_str', dn_non, dn_int, dn_tup, dn_str, dn_bl, dnn_non, dnn_int, dnn_tup, dnn_str, dnn_bl, decide_eq_true_eq, fBin, fCons, fTup, fLst, fCall, fCB, fIf, fOf, fTru, fAndB, fOrB, fNotB, fAnd, fOr, fNot, fNeg, fChain, fSl, fOSo, fItems, fZip, fEnum, fRng, fLC, fLCf, fLC2, fIn, fLz, fApp, fExt, fSetI, fIsi]
  rfl
theorem distance_eq {a b c d a' b' c' d' : Int} (h : okc (a, b, c, d)) (h' : okc (a', b', c', d')) : m_distance [.tup [.int a, .int b, .int c, .int d], .tup [.int a', .int b', .int c', .int d']] = M.pure (.int ((a - a') * (a - a') + ((b - b') * (b - b') + ((c - c') * (c - c') + ((d - d') * (d - d') + 0))))) := by
  simp only [okc] at h h'
  show p_distance _ _ = _
  unfold p_distance
  simp (config := { maxSteps := 3000000 }) (disch := first | omega | (simp only [List.length_map, List.length_cons, List.length_nil, List.length_append, List.length_replicate, List.length_set, List.length_range, nts_len, List.length_take, List.length_drop]; omega) | kernel_rfl) only [in_int, ng_int, mx_nil, mx_cons, o_ne_self, o_eq_self, ls_lst, Pm.pure_bind, bad_bind, raise_bind, opt_some, opt_none, Pm.bind_assoc, Pm.bind_pure, f_bin, f_nil, f_cons, f_tup, f_lst, f_call, f_cb, f_if, f_of, f_ofv, f_tru, f_andB, f_orB, f_notB, f_and, f_or, f_not, f_neg, f_chain, f_sl, f_ono, f_oso, f_items, f_zip, f_enum, f_rng, f_lc, f_lcf, f_lc2, f_in, f_lz, f_app, f_ext, f_seti, f_isi, f_u2, f_u3, f_u4, i_tup, i_lst, z_tup, z_lst, zl_nil, zl_cons, en_tup, en_lst, en_nil, en_cons, x_nil, x_cons, x_map, x_pure, xf_nil, xf_cons, xc_nil, xc_cons, noEx_pure, o_add, o_sub, o_lt, o_le, o_gt, o_ge, o_eq, o_ne, o_mulL, o_mulR, o_div, o_mod, o_addT, o_addL, o_iadd, Pm.ix_tup, ix_lst, Pm.sl_tup, sl_lst, b_len_t, b_len_l, b_abs, b_int_i, b_int_b, b_sum, b_all, b_any, b_tup_l, b_tup_t, b_lst_l, b_lst_t, b_max2, b_max3, b_min2, b_min3, t_bl, t_int, t_tup, t_lst, t_non, a_app, a_ext, bl_bl, decide_true, decide_false, Bool.not_true, Bool.not_false, if_true, if_false, Bool.false_eq_true, for_nil, for_cons, ls_cons, ls_nil, at0, at1, at2, at3, at4, List.cons_append, List.nil_append, List.length_cons, List.length_nil, List.length_map, n_ot, isi_int', isi_bool', isi_tup', isi_str', dn_non, dn_int, dn_tup, dn_str, dn_bl, dnn_non, dnn_int, dnn_tup, dnn_str, dnn_bl, decide_eq_true_eq, fBin, fCons, fTup, fLst, fCall, fCB, fIf, fOf, fTru, fAndB, fOrB, fNotB, fAnd, fOr, fNot, fNeg, fChain, fSl, fOSo, fItems, fZip, fEnum, fRng, fLC, fLCf, fLC2, fIn, fLz, fApp, fExt, fSetI, fIsi, intsOf, Option.map_some, List.sum_cons, List.sum_nil]
def overC (t b : C4) : C4 :=
  if 255 * t.2.2.2 + b.2.2.2 * (255 - t.2.2.2) = 0 then (0, 0, 0, 0) else
  (rnd (255 * t.2.2.2 * t.1 + b.2.2.2 * (255 - t.2.2.2) * b.1) (255 * t.2.2.2 + b.2.2.2 * (255 - t.2.2.2)), rnd (255 * t.2.2.2 * t.2.1 + b.2.2.2 * (255 - t.2.2.2) * b.2.1) (255 * t.2.2.2 + b.2.2.2 * (255 - t.2.2.2)), rnd (255 * t.2.2.2 * t.2.2.1 + b.2.2.2 * (255 - t.2.2.2) * b.2.2.1) (255 * t.2.2.2 + b.2.2.2 * (255 - t.2.2.2)), rnd (255 * t.2.2.2 + b.2.2.2 * (255 - t.2.2.2)) 255)
end Pm
end
noncomputable section
namespace Pm
open PySem
def p__law_drawn_picture (_law_script_ : D) (_law_town_ : D) (_law_width_ : D) (_law_height_ : D) (_law_many_ : D) : M D :=
  (M.bind (fLC (fRng (fCons (M.pure _law_many_) fNil)) fun _law_k_ => (fCall m__law_drawn_colour (fCons (M.pure _law_script_) (fCons (M.pure _law_town_) fNil)))) fun _law_some_ =>
  (fTup (fCons (M.pure _law_width_) (fCons (M.pure _law_height_) (fCons (fCB tupF (fCons (fLC (fRng (fCons (fBin mulD (M.pure _law_width_) (M.pure _law_height_)) fNil)) fun _law_k_ => (fCall m__law_pick (fCons (M.pure _law_script_) (fCons (M.pure _law_town_) (fCons (M.pure _law_some_) fNil))))) fNil)) fNil)))))
def m__law_drawn_picture : Mf := fun ds => match ds with
  | [_law_script_, _law_town_, _law_width_, _law_height_, _law_many_] => p__law_drawn_picture _law_script_ _law_town_ _law_width_ _law_height_ _law_many_
  | _ => M.bad

theorem blsOf_rep (n : Nat) : blsOf (List.replicate n (.bl true)) = some (List.replicate n true) := by
  induction n with
  | zero => rfl
  | succ n ih => simp [List.replicate_succ, blsOf, ih]
theorem all_rep (n : Nat) : (List.replicate n true).all id = true := by
  induction n with
  | zero => rfl
  | succ n ih => simp [List.replicate_succ, ih]

def cells (cs : List C4) : D := .tup (cs.map col)
theorem dr_mapX {α : Type} {f : α → M D} {P : D → Prop} (n : Nat) : ∀ (xs : List α), (∀ x ∈ xs, Dr n (f x) P) → Dr (n * xs.length) (mapX f xs) (fun l => l.length = xs.length ∧ ∀ y ∈ l, P y)
  | [], _ => Dr.pure ⟨rfl, fun y h => nomatch h⟩
  | x :: xs, h => by
    have e : n * (x :: xs).length = n + (n * xs.length + 0) := by rw [List.length_cons, Nat.mul_succ]; omega
    rw [e]
    refine Dr.bind (h x List.mem_cons_self).noEx fun a ha => Dr.bind (dr_mapX n xs fun y hy => h y (List.mem_cons_of_mem _ hy)) fun l ⟨h1, h2⟩ => Dr.pure ⟨by simp [h1], fun y hy => ?_⟩
    rcases List.mem_cons.mp hy with rfl | hy
    · exact ha
    · exact h2 y hy
theorem dr_range {m : Nat → M D} {P : D → Prop} (n k : Nat) (h : ∀ i, Dr n (m i) P) : Dr (n * k) (mapX m (List.range k)) (fun l => l.length = k ∧ ∀ y ∈ l, P y) := by
  have := dr_mapX (f := m) (P := P) n (List.range k) fun _ _ => h _
  rwa [List.length_range] at this
theorem cols_of : ∀ {ds : List D}, (∀ d ∈ ds, ∃ c, d = col c ∧ okc c) → ∃ cs : List C4, ds = cs.map col ∧ ∀ c ∈ cs, okc c
  | [], _ => ⟨[], rfl, fun c h => (nomatch h)⟩
  | d :: ds, h => by
    obtain ⟨c, h1, h2⟩ := h d List.mem_cons_self
    obtain ⟨cs, h3, h4⟩ := cols_of fun x hx => h x (List.mem_cons_of_mem _ hx)
    refine ⟨c :: cs, by rw [h1, h3]; rfl, fun x hx => ?_⟩
    rcases List.mem_cons.mp hx with rfl | hx
    · exact h2
    · exact h4 x hx
theorem dr_picture {ns : List Int} {w h m : Int} (hn : ns.length ≤ 63) (hw : 1 ≤ w ∧ w ≤ 99) (hh : 1 ≤ h ∧ h ≤ 99) (hwh : w * h ≤ 1000) (hm : 1 ≤ m ∧ m ≤ 100) : Dr (14 * m.toNat + 2 * (w * h).toNat) (m__law_drawn_picture [.scr ns, .town, .int w, .int h, .int m]) (fun d => ∃ cs, d = .tup [.int w, .int h, cells cs] ∧ (∀ c ∈ cs, okc c) ∧ (cs.length : Int) = w * h) := by
  show Dr _ (p__law_drawn_picture _ _ _ _ _) _
  unfold p__law_drawn_picture
  have hp : 0 < w * h := Int.mul_pos (by omega) (by omega)
  simp (config := { maxSteps := 3000000 }) (disch := first | omega | (simp only [List.length_map, List.length_cons, List.length_nil, List.length_append, List.length_replicate, List.length_set, List.length_range, nts_len, List.length_take, List.length_drop]; omega) | kernel_rfl) only [in_int, ng_int, mx_nil, mx_cons, o_ne_self, o_eq_self, ls_lst, Pm.pure_bind, bad_bind, raise_bind, opt_some, opt_none, Pm.bind_assoc, Pm.bind_pure, f_bin, f_nil, f_cons, f_tup, f_lst, f_call, f_cb, f_if, f_of, f_ofv, f_tru, f_andB, f_orB, f_notB, f_and, f_or, f_not, f_neg, f_chain, f_sl, f_ono, f_oso, f_items, f_zip, f_enum, f_rng, f_lc, f_lcf, f_lc2, f_in, f_lz, f_app, f_ext, f_seti, f_isi, f_u2, f_u3, f_u4, i_tup, i_lst, z_tup, z_lst, zl_nil, zl_cons, en_tup, en_lst, en_nil, en_cons, x_nil, x_cons, x_map, x_pure, xf_nil, xf_cons, xc_nil, xc_cons, noEx_pure, o_add, o_sub, o_lt, o_le, o_gt, o_ge, o_eq, o_ne, o_mulL, o_mulR, o_div, o_mod, o_addT, o_addL, o_iadd, Pm.ix_tup, ix_lst, Pm.sl_tup, sl_lst, b_len_t, b_len_l, b_abs, b_int_i, b_int_b, b_sum, b_all, b_any, b_tup_l, b_tup_t, b_lst_l, b_lst_t, b_max2, b_max3, b_min2, b_min3, t_bl, t_int, t_tup, t_lst, t_non, a_app, a_ext, bl_bl, decide_true, decide_false, Bool.not_true, Bool.not_false, if_true, if_false, Bool.false_eq_true, for_nil, for_cons, ls_cons, ls_nil, at0, at1, at2, at3, at4, List.cons_append, List.nil_append, List.length_cons, List.length_nil, List.length_map, n_ot, isi_int', isi_bool', isi_tup', isi_str', dn_non, dn_int, dn_tup, dn_str, dn_bl, dnn_non, dnn_int, dnn_tup, dnn_str, dnn_bl, decide_eq_true_eq, fBin, fCons, fTup, fLst, fCall, fCB, fIf, fOf, fTru, fAndB, fOrB, fNotB, fAnd, fOr, fNot, fNeg, fChain, fSl, fOSo, fItems, fZip, fEnum, fRng, fLC, fLCf, fLC2, fIn, fLz, fApp, fExt, fSetI, fIsi, rng_A (j := m) (by omega) (by omega)]
  refine Dr.bind (dr_range 14 m.toNat fun _ => dr_colour hn) fun l ⟨hl, hc⟩ => ?_
  have hl0 : l ≠ [] := fun z => by rw [z] at hl; simp at hl; omega
  simp (config := { maxSteps := 3000000 }) (disch := first | omega | (simp only [List.length_map, List.length_cons, List.length_nil, List.length_append, List.length_replicate, List.length_set, List.length_range, nts_len, List.length_take, List.length_drop]; omega) | kernel_rfl) only [in_int, ng_int, mx_nil, mx_cons, o_ne_self, o_eq_self, ls_lst, Pm.pure_bind, bad_bind, raise_bind, opt_some, opt_none, Pm.bind_assoc, Pm.bind_pure, f_bin, f_nil, f_cons, f_tup, f_lst, f_call, f_cb, f_if, f_of, f_ofv, f_tru, f_andB, f_orB, f_notB, f_and, f_or, f_not, f_neg, f_chain, f_sl, f_ono, f_oso, f_items, f_zip, f_enum, f_rng, f_lc, f_lcf, f_lc2, f_in, f_lz, f_app, f_ext, f_seti, f_isi, f_u2, f_u3, f_u4, i_tup, i_lst, z_tup, z_lst, zl_nil, zl_cons, en_tup, en_lst, en_nil, en_cons, x_nil, x_cons, x_map, x_pure, xf_nil, xf_cons, xc_nil, xc_cons, noEx_pure, o_add, o_sub, o_lt, o_le, o_gt, o_ge, o_eq, o_ne, o_mulL, o_mulR, o_div, o_mod, o_addT, o_addL, o_iadd, Pm.ix_tup, ix_lst, Pm.sl_tup, sl_lst, b_len_t, b_len_l, b_abs, b_int_i, b_int_b, b_sum, b_all, b_any, b_tup_l, b_tup_t, b_lst_l, b_lst_t, b_max2, b_max3, b_min2, b_min3, t_bl, t_int, t_tup, t_lst, t_non, a_app, a_ext, bl_bl, decide_true, decide_false, Bool.not_true, Bool.not_false, if_true, if_false, Bool.false_eq_true, for_nil, for_cons, ls_cons, ls_nil, at0, at1, at2, at3, at4, List.cons_append, List.nil_append, List.length_cons, List.length_nil, List.length_map, n_ot, isi_int', isi_bool', isi_tup', isi_str', dn_non, dn_int, dn_tup, dn_str, dn_bl, dnn_non, dnn_int, dnn_tup, dnn_str, dnn_bl, decide_eq_true_eq, fBin, fCons, fTup, fLst, fCall, fCB, fIf, fOf, fTru, fAndB, fOrB, fNotB, fAnd, fOr, fNot, fNeg, fChain, fSl, fOSo, fItems, fZip, fEnum, fRng, fLC, fLCf, fLC2, fIn, fLz, fApp, fExt, fSetI, fIsi, rng_A (j := w * h) (by omega) (by omega)]
  refine Dr.then _ (dr_range 2 (w * h).toNat fun _ => dr_pick hn hl0) (by omega) fun r ⟨hr, hc2⟩ => ?_
  obtain ⟨cs, rfl, hcs⟩ := cols_of fun y hy => hc y (hc2 y hy)
  exact Dr.pure ⟨cs, rfl, hcs, by rw [List.length_map] at hr; omega⟩

theorem ix_col0 (c : C4) : ixD (col c) (.int 0) = some (.int c.1) := rfl
theorem ix_col1 (c : C4) : ixD (col c) (.int 1) = some (.int c.2.1) := rfl
theorem ix_col2 (c : C4) : ixD (col c) (.int 2) = some (.int c.2.2.1) := rfl
theorem ix_col3 (c : C4) : ixD (col c) (.int 3) = some (.int c.2.2.2) := rfl
theorem okd_col (n : Nat) (c : C4) : okd (n + 1) (col c) = true := by unfold col; rw [okd_tup]; simp [okd_int]
theorem okd_cells (n : Nat) (cs : List C4) : okd (n + 2) (cells cs) = true := by
  unfold cells
  rw [okd_tup, List.all_eq_true]
  intro x hx
  obtain ⟨c, _, rfl⟩ := List.mem_map.mp hx
  exact okd_col n c
end Pm
end
noncomputable section
namespace Pm
open PySem

section
variable {σ τ α : Type}
theorem while_succ (c : σ → M Bool) (b : σ → (σ → M α) → M α) (n : Nat) (st : σ) (k : σ → M α) : fWhile c b (n + 1) st k = fIf (c st) (b st fun st' => fWhile c b n st' k) (k st) := rfl
def whlO (p : τ → Bool) (g : τ → Option τ) : Nat → τ → Option τ
  | 0, st => some st
  | n + 1, st => if p st = true then (match g st with | some st' => whlO p g n st' | none => none) else some st
end

end Pm
end
noncomputable section
namespace Pm
open PySem
def p_must_be_mode (mode_ : D) : M D :=
  (fIf (fOf (fBin ninD (M.pure mode_) (M.pure ((.tup [(.str "plain"), (.str "times"), (.str "screen"), (.str "dark"), (.str "light"), (.str "add"), (.str "less"), (.str "apart")]) : D))))
  (M.raise "BadMode")
  (M.pure D.non))
def m_must_be_mode : Mf := fun ds => match ds with
  | [mode_] => p_must_be_mode mode_
  | _ => M.bad
def p_told_by (mode_ : D) (top_ : D) (bottom_ : D) : M D :=
  (fIf (fOf (fBin eqD (M.pure mode_) (M.pure (D.str "times"))))
  (fCall m_rounded (fCons (fBin mulD (M.pure top_) (M.pure bottom_)) (fCons (M.pure (D.int 255)) fNil)))
  (fIf (fOf (fBin eqD (M.pure mode_) (M.pure (D.str "screen"))))
  (fBin subD (M.pure (D.int 255)) (fCall m_rounded (fCons (fBin mulD (fBin subD (M.pure (D.int 255)) (M.pure top_)) (fBin subD (M.pure (D.int 255)) (M.pure bottom_))) (fCons (M.pure (D.int 255)) fNil))))
  (fIf (fOf (fBin eqD (M.pure mode_) (M.pure (D.str "dark"))))
  (fCB minF (fCons (M.pure top_) (fCons (M.pure bottom_) fNil)))
  (fIf (fOf (fBin eqD (M.pure mode_) (M.pure (D.str "light"))))
  (fCB maxF (fCons (M.pure top_) (fCons (M.pure bottom_) fNil)))
  (fIf (fOf (fBin eqD (M.pure mode_) (M.pure (D.str "add"))))
  (fCB minF (fCons (M.pure (D.int 255)) (fCons (fBin addD (M.pure top_) (M.pure bottom_)) fNil)))
  (fIf (fOf (fBin eqD (M.pure mode_) (M.pure (D.str "less"))))
  (fCB maxF (fCons (M.pure (D.int 0)) (fCons (fBin subD (M.pure bottom_) (M.pure top_)) fNil)))
  (fIf (fOf (fBin eqD (M.pure mode_) (M.pure (D.str "apart")))) (fCB absF (fCons (fBin subD (M.pure top_) (M.pure bottom_)) fNil)) (M.pure top_))))))))
def m_told_by : Mf := fun ds => match ds with
  | [mode_, top_, bottom_] => p_told_by mode_ top_ bottom_
  | _ => M.bad
def l0_blended (top_ : D) (bottom_ : D) (mode_ : D) (cover_ : D) (it1_ : D) (parts_ : D) (k0_ : D → M D) : M D :=
  (fU2 it1_ fun left_ right_ => (M.bind (fApp parts_ (fCall m_rounded (fCons (fBin addD (fBin mulD (fBin subD (M.pure (D.int 255)) (M.pure cover_)) (M.pure left_)) (fBin mulD (M.pure cover_) (fCall m_told_by (fCons (M.pure mode_) (fCons (M.pure left_) (fCons (M.pure right_) fNil)))))) (fCons (M.pure (D.int 255)) fNil)))) fun parts_ =>
  (k0_ parts_)))
def p_blended (top_ : D) (bottom_ : D) (mode_ : D) : M D :=
  (M.bind (fCall m_must_be_mode (fCons (M.pure mode_) fNil)) fun _ =>
  (M.bind (fBin ixD (M.pure bottom_) (M.pure (D.int 3))) fun cover_ => (M.bind (fLst fNil) fun parts_ => 
  (M.bind (fZip (fCons (fSl (M.pure top_) fONo (fOSo (M.pure (D.int 3)))) (fCons (fSl (M.pure bottom_) fONo (fOSo (M.pure (D.int 3)))) fNil))) fun xs2_ => fFor (l0_blended top_ bottom_ mode_ cover_) xs2_ parts_ fun parts_ =>
  (fCall m_laid_over (fCons (fTup (fCons (fBin ixD (M.pure parts_) (M.pure (D.int 0))) (fCons (fBin ixD (M.pure parts_) (M.pure (D.int 1))) (fCons (fBin ixD (M.pure parts_) (M.pure (D.int 2))) (fCons (fBin ixD (M.pure top_) (M.pure (D.int 3))) fNil))))) (fCons (M.pure bottom_) fNil)))))))
def m_blended : Mf := fun ds => match ds with
  | [top_, bottom_, mode_] => p_blended top_ bottom_ mode_
  | _ => M.bad

def mW : List Str := ["plain", "times", "screen", "dark", "light", "add", "less", "apart"]
def mT (w : Str) (p q : Int) : Int :=
  if w = "times" then rnd (p * q) 255 else if w = "screen" then 255 - rnd ((255 - p) * (255 - q)) 255 else if w = "dark" then min p q else if w = "light" then max p q
  else if w = "add" then min 255 (p + q) else if w = "less" then max 0 (q - p) else if w = "apart" then max p q - min p q else p
def byt (p : Int) : Prop := 0 ≤ p ∧ p ≤ 255
def mP (w : Str) (c p q : Int) : Int := rnd ((255 - c) * p + c * mT w p q) 255
def blC (w : Str) (t b : C4) : C4 := (mP w b.2.2.2 t.1 b.1, mP w b.2.2.2 t.2.1 b.2.1, mP w b.2.2.2 t.2.2.1 b.2.2.1, t.2.2.2)
end Pm
end
noncomputable section
namespace Pm
open PySem


theorem zipL_map {α β : Type} (f : α → D) (g : β → D) : ∀ (l : List α) (m : List β), zipL (l.map f) (m.map g) = (l.zip m).map fun p => .tup [f p.1, g p.2]
  | [], _ => rfl
  | _ :: _, [] => rfl
  | x :: l, y :: m => by rw [List.map_cons, List.map_cons, zl_cons, zipL_map f g l m]; rfl


end Pm
end
noncomputable section
namespace Pm
open PySem



end Pm
end
noncomputable section
namespace Pm
open PySem
def p_rows_of (picture_ : D) : M D :=
  (M.bind (M.pure picture_) fun it1_ => (fU3 it1_ fun width_ height_ cells_ => 
  (fLC (fRng (fCons (M.pure height_) fNil)) fun y_ => (fSl (M.pure cells_) (fOSo (fBin mulD (M.pure y_) (M.pure width_))) (fOSo (fBin mulD (fBin addD (M.pure y_) (M.pure (D.int 1))) (M.pure width_)))))))
def m_rows_of : Mf := fun ds => match ds with
  | [picture_] => p_rows_of picture_
  | _ => M.bad
def p_of_rows (rows_ : D) : M D :=
  (fTup (fCons (fCB lenF (fCons (fBin ixD (M.pure rows_) (M.pure (D.int 0))) fNil)) (fCons (fCB lenF (fCons (M.pure rows_) fNil)) (fCons (fCB tupF (fCons (fLC2 (fItems (M.pure rows_)) fun row_ => (fIn (fItems (M.pure row_)) fun cell_ => (M.pure cell_))) fNil)) fNil))))
def m_of_rows : Mf := fun ds => match ds with
  | [rows_] => p_of_rows rows_
  | _ => M.bad

theorem call1 (m : Mf) (a : D) : fCall m (fCons (M.pure a) fNil) = m [a] := rfl
theorem call2 (m : Mf) (a b : D) : fCall m (fCons (M.pure a) (fCons (M.pure b) fNil)) = m [a, b] := rfl
theorem call5 (m : Mf) (a b c d e : D) : fCall m (fCons (M.pure a) (fCons (M.pure b) (fCons (M.pure c) (fCons (M.pure d) (fCons (M.pure e) fNil))))) = m [a, b, c, d, e] := rfl
def gridL {α : Type} (w h : Nat) (c : Nat → Nat → α) : List (List α) := (List.range h).map fun y => (List.range w).map fun x => c x y
def picF (w h : Nat) (c : Nat → Nat → D) : D := .tup [.int w, .int h, .tup (gridL w h c).flatten]
abbrev picC (w h : Nat) (c : Nat → Nat → C4) : D := picF w h fun x y => col (c x y)
section
variable {α : Type} {w h : Nat} {c c' : Nat → Nat → α}
theorem grid_len : (gridL w h c).length = h := by unfold gridL; simp
theorem grid_get {y : Nat} (hy : y < h) : (gridL w h c)[y]? = some ((List.range w).map fun x => c x y) := by
  unfold gridL; rw [List.getElem?_map, List.getElem?_range hy]; rfl
theorem flat_len : ∀ (h : Nat) (f : Nat → List α) (_ : ∀ y, (f y).length = w), ((List.range h).map f).flatten.length = w * h
  | 0, f, _ => by simp
  | h + 1, f, hf => by rw [List.range_succ, List.map_append, List.flatten_append, List.length_append, flat_len h f hf]; simp [hf, Nat.mul_succ]
theorem cells_len : (gridL w h c).flatten.length = w * h := flat_len h _ fun y => by simp
theorem flat_get : ∀ (h : Nat) (f : Nat → List α) (_ : ∀ y, (f y).length = w) (x y : Nat), x < w → y < h → ((List.range h).map f).flatten[y * w + x]? = (f y)[x]?
  | 0, f, _, x, y, _, hy => absurd hy (by omega)
  | h + 1, f, hf, x, y, hx, hy => by
    rw [List.range_succ, List.map_append, List.flatten_append]
    by_cases q : y < h
    · have b : (y + 1) * w ≤ h * w := Nat.mul_le_mul_right w q
      rw [Nat.succ_mul] at b
      rw [List.getElem?_append_left (by rw [flat_len h f hf, Nat.mul_comm w h]; omega), flat_get h f hf x y hx q]
    · have e : y = h := by omega
      subst e
      rw [List.getElem?_append_right (by rw [flat_len y f hf, Nat.mul_comm w y]; omega), flat_len y f hf, Nat.mul_comm w y]
      simp
theorem cells_get {x y : Nat} (hx : x < w) (hy : y < h) : (gridL w h c).flatten[y * w + x]? = some (c x y) := by
  unfold gridL
  rw [flat_get h _ (fun y => by simp) x y hx hy, List.getElem?_map, List.getElem?_range hx]; rfl
theorem of_cells [Inhabited α] {cs : List α} (hl : cs.length = w * h) : cs = (gridL w h fun x y => cs.getD (y * w + x) default).flatten := by
  refine List.ext_getElem? fun k => ?_
  by_cases hk : k < w * h
  · have hw : 0 < w := Nat.pos_of_ne_zero fun z => by subst z; simp at hk
    have e : k = k / w * w + k % w := by rw [Nat.mul_comm]; exact (Nat.div_add_mod k w).symm
    have hx : k % w < w := Nat.mod_lt _ hw
    have hy : k / w < h := Nat.div_lt_of_lt_mul hk
    rw [e, cells_get hx hy, List.getD_eq_getElem?_getD, ← e, List.getElem?_eq_getElem (by omega)]; rfl
  · rw [List.getElem?_eq_none (by omega), List.getElem?_eq_none (by rw [cells_len]; omega)]
theorem row_of {cs : List α} (hl : cs = (gridL w h c).flatten) {y : Nat} (hy : y < h) : (cs.drop (y * w)).take w = (List.range w).map fun x => c x y := by
  subst hl
  refine List.ext_getElem? fun x => ?_
  rw [List.getElem?_take]
  by_cases hx : x < w
  · rw [if_pos hx, List.getElem?_drop, cells_get hx hy, List.getElem?_map, List.getElem?_range hx]; rfl
  · rw [if_neg hx, List.getElem?_eq_none (by simp; omega)]
theorem grid_map {β : Type} (f : α → β) : (gridL w h c).flatten.map f = (gridL w h fun x y => f (c x y)).flatten := by
  unfold gridL
  rw [List.map_flatten, List.map_map]
  congr 1
  refine List.map_congr_left fun y _ => ?_
  simp
theorem mem_grid {z : α} (hz : z ∈ (gridL w h c).flatten) : ∃ x y, x < w ∧ y < h ∧ z = c x y := by
  obtain ⟨r, hr, hz⟩ := List.mem_flatten.mp hz
  obtain ⟨y, hy, rfl⟩ := List.mem_map.mp hr
  obtain ⟨x, hx, rfl⟩ := List.mem_map.mp hz
  exact ⟨x, y, List.mem_range.mp hx, List.mem_range.mp hy, rfl⟩
end
theorem u3_pic {α : Type} (w h : Nat) (c : Nat → Nat → D) (k : D → D → D → M α) : fU3 (picF w h c) k = k (.int w) (.int h) (.tup (gridL w h c).flatten) := rfl
theorem cutr (cs : List D) (y w : Nat) : cutL cs (some ((y * w : Nat) : Int)) (some (((y + 1) * w : Nat) : Int)) = (cs.drop (y * w)).take w := by
  rw [cut_mid]
  congr 1
  rw [Nat.add_mul]; omega
theorem rowsF {w h : Nat} (c : Nat → Nat → D) (hw : w ≤ 1000) (hh : h ≤ 1000) : m_rows_of [picF w h c] = M.pure (.lst ((gridL w h c).map D.tup)) := by
  show p_rows_of _ = _
  unfold p_rows_of
  rw [Pm.pure_bind, u3_pic, show fRng (fCons (M.pure (.int (h : Int))) fNil) = M.opt (rngF [.int (h : Int)]) from rfl, rng_A (by omega) (by omega), opt_some, f_lc, map_of (E := fun (k : Nat) => D.int k) (l := List.range (h : Int).toNat) (g := fun y => D.tup ((List.range w).map fun x => c x y)) (fun y hy => ?_)]
  · unfold gridL
    rw [Pm.pure_bind, List.map_map]; rfl
  · have hy : y < h := by have := List.mem_range.mp hy; omega
    have e1 : fBin mulD (M.pure (.int (y : Int))) (M.pure (.int (w : Int))) = M.pure (.int ((y * w : Nat) : Int)) := by
      rw [f_bin, o_mulR (by omega) (by omega)]; rfl
    have e2 : fBin mulD (fBin addD (M.pure (.int (y : Int))) (M.pure (D.int 1))) (M.pure (.int (w : Int))) = M.pure (.int (((y + 1) * w : Nat) : Int)) := by
      rw [show fBin addD (M.pure (.int (y : Int))) (M.pure (D.int 1)) = M.pure (.int ((y : Int) + 1)) from rfl, f_bin, o_mulR (by omega) (by omega)]; rfl
    rw [e1, e2, f_oso, f_oso]
    show M.pure (D.tup (cutL _ _ _)) = _
    rw [cutr, row_of rfl hy]
theorem in_idF (r : List D) : fMapM (fun d => M.pure d) r = M.pure r := by
  have := map_of (f := fun d => M.pure d) (E := id) (g := id) (l := r) (fun _ _ => rfl)
  rwa [List.map_id] at this
theorem madeF {E : List D → D} (h1 : ∀ r, lenF [E r] = some (.int r.length)) (h2 : ∀ r, itemsD (E r) = some r) {w h : Nat} (c : Nat → Nat → D) (hw : 1 ≤ w ∧ w ≤ 1000) (hh : 1 ≤ h ∧ h ≤ 1000) : m_of_rows [.lst ((gridL w h c).map E)] = M.pure (picF w h c) := by
  show p_of_rows _ = _
  unfold p_of_rows
  have e0 : fBin ixD (M.pure (.lst ((gridL w h c).map E))) (M.pure (D.int 0)) = M.pure (E ((List.range w).map fun x => c x 0)) := by
    rw [f_bin, ix_lst, at_map (E := E) (i := 0) (n := 0) (xs := gridL w h c) rfl (grid_get (by omega))]; rfl
  have e1 : fCB lenF (fCons (M.pure (.lst ((gridL w h c).map E))) fNil) = M.pure (.int h) := by
    show M.opt (some (D.int ((gridL w h c).map E).length)) = _
    rw [List.length_map, grid_len]; rfl
  have e3 : fCB lenF (fCons (M.pure (E ((List.range w).map fun x => c x 0))) fNil) = M.pure (.int w) := by
    show M.opt (lenF [_]) = _
    rw [h1, List.length_map, List.length_range]; rfl
  have hz : (gridL w h c).flatten.length ≤ 16777216 := by
    rw [cells_len]
    have : w * h ≤ 1000 * 1000 := Nat.mul_le_mul hw.2 hh.2
    omega
  have e2 : fLC2 (fItems (M.pure (.lst ((gridL w h c).map E)))) (fun row_ => (fIn (fItems (M.pure row_)) fun cell_ => (M.pure cell_))) = M.pure (.lst (gridL w h c).flatten) := by
    rw [show fItems (M.pure (.lst ((gridL w h c).map E))) = M.pure ((gridL w h c).map E) from rfl, f_lc2, cat_of (E := E) (g := fun r => r) (l := gridL w h c) (fun r _ => by rw [f_items, h2, opt_some, f_in, in_idF]), Pm.pure_bind, List.map_id', if_pos (by rw [sizeIs]; exact hz)]
  rw [e0, e1, e2, e3]
  rfl
theorem at_cellF {w h : Nat} (c : Nat → Nat → D) {x y : Nat} (hx : x < w) (hy : y < h) : L2.atI (gridL w h c).flatten ((y : Int) * w + x) = some (c x y) :=
  atI_of (n := y * w + x) (by simp) (cells_get hx hy)

section
variable {L : Lams} {told : D} {F : C4 → C4 → C4} {w h : Nat} {c0 : Nat → Nat → C4} {X Y : Int}
def okG (w h : Nat) (c : Nat → Nat → C4) : Prop := ∀ x y, x < w → y < h → okc (c x y)
end
section
variable {L : Lams} {told : D} {F : C4 → C4 → C4} {w h w2 h2 : Nat} {c c2 : Nat → Nat → C4} {X Y : Int}
def putC (w2 h2 : Nat) (X Y : Int) (F : C4 → C4 → C4) (c c2 : Nat → Nat → C4) : Nat → Nat → C4 := fun x y =>
  if X ≤ x ∧ x < X + w2 ∧ Y ≤ y ∧ y < Y + h2 then F (c2 (x - X).toNat (y - Y).toNat) (c x y) else c x y
theorem okd_pic (n : Nat) {c : Nat → Nat → C4} : okd (n + 3) (picC w h c) = true := by
  show okd (n + 2 + 1) (.tup _) = true
  rw [okd_tup]
  simp only [List.all_cons, List.all_nil, okd_int, Bool.true_and, Bool.and_true]
  rw [okd_tup, List.all_eq_true]
  intro z hz
  obtain ⟨x, y, _, _, rfl⟩ := mem_grid hz
  exact okd_col n _
end
end Pm
end
noncomputable section
namespace Pm
open PySem

def fadC (c : C4) (s : Int) : C4 := (c.1, c.2.1, c.2.2.1, rnd (c.2.2.2 * s) 255)
def layF (w : Str) (s : Int) (p q : C4) : C4 := overC (blC w (fadC p s) q) q
section
variable {L : Lams} {k : Nat} {w h w2 h2 : Nat} {c c2 : Nat → Nat → C4} {X Y : Int}
end
theorem okc0 : okc ((0, 0, 0, 0) : C4) := by simp only [okc]; omega
theorem dr_pic {ns : List Int} {w h : Nat} {m : Int} (hn : ns.length ≤ 63) (hw : 1 ≤ w ∧ w ≤ 99) (hh : 1 ≤ h ∧ h ≤ 99) (hwh : w * h ≤ 1000) (hm : 1 ≤ m ∧ m ≤ 100) : Dr (14 * m.toNat + 2 * (w * h)) (m__law_drawn_picture [.scr ns, .town, .int w, .int h, .int m]) (fun d => ∃ c : Nat → Nat → C4, d = picC w h c ∧ ∀ x y, okc (c x y)) := by
  have e : ((w : Int) * (h : Int)) = ((w * h : Nat) : Int) := by simp
  have q := dr_picture (ns := ns) (w := (w : Int)) (h := (h : Int)) (m := m) hn (by omega) (by omega) (by rw [e]; omega) hm
  rw [e, Int.toNat_natCast] at q
  refine q.imp fun d ⟨cs, h1, h2, h3⟩ => ?_
  have hl : cs.length = w * h := by omega
  refine ⟨fun x y => cs.getD (y * w + x) default, ?_, fun x y => ?_⟩
  · rw [h1]
    unfold cells
    show _ = picF w h _
    unfold picF
    rw [← grid_map (f := col), ← of_cells hl]
  · show okc (cs.getD (y * w + x) default)
    rw [List.getD_eq_getElem?_getD]
    cases z : cs[y * w + x]? with
    | none => exact okc0
    | some v => exact h2 v (List.mem_of_getElem? z)

end Pm
end
noncomputable section
namespace Pm
open PySem
def p_is_whole (thing_ : D) : M D :=
  (fAnd (fIsi "int" (M.pure thing_)) (fNot (fIsi "bool" (M.pure thing_))))
def m_is_whole : Mf := fun ds => match ds with
  | [thing_] => p_is_whole thing_
  | _ => M.bad
def p_is_part (thing_ : D) : M D :=
  (fAnd (fCall m_is_whole (fCons (M.pure thing_) fNil)) (fChain leD leD (M.pure (D.int 0)) (M.pure thing_) (M.pure (D.int 255))))
def m_is_part : Mf := fun ds => match ds with
  | [thing_] => p_is_part thing_
  | _ => M.bad
def p_is_colour (thing_ : D) : M D :=
  (fAnd (fIsi "tuple" (M.pure thing_)) (fAnd (fBin eqD (fCB lenF (fCons (M.pure thing_) fNil)) (M.pure (D.int 4))) (fCB allF (fCons (fLC (fItems (M.pure thing_)) fun one_ => (fCall m_is_part (fCons (M.pure one_) fNil))) fNil))))
def m_is_colour : Mf := fun ds => match ds with
  | [thing_] => p_is_colour thing_
  | _ => M.bad

theorem part_eq {r : Int} (h : byt r) : m_is_part [.int r] = M.pure (.bl true) := by
  unfold byt at h
  show p_is_part _ = _
  unfold p_is_part
  rw [call1 m_is_whole]
  show fAnd (p_is_whole (.int r)) _ = _
  unfold p_is_whole
  simp only [in_int, ng_int, mx_nil, mx_cons, o_ne_self, o_eq_self, ls_lst, Pm.pure_bind, bad_bind, raise_bind, opt_some, opt_none, Pm.bind_assoc, Pm.bind_pure, f_bin, f_nil, f_cons, f_tup, f_lst, f_call, f_cb, f_if, f_of, f_ofv, f_tru, f_andB, f_orB, f_notB, f_and, f_or, f_not, f_neg, f_chain, f_sl, f_ono, f_oso, f_items, f_zip, f_enum, f_rng, f_lc, f_lcf, f_lc2, f_in, f_lz, f_app, f_ext, f_seti, f_isi, f_u2, f_u3, f_u4, i_tup, i_lst, z_tup, z_lst, zl_nil, zl_cons, en_tup, en_lst, en_nil, en_cons, x_nil, x_cons, x_map, x_pure, xf_nil, xf_cons, xc_nil, xc_cons, noEx_pure, o_add, o_sub, o_lt, o_le, o_gt, o_ge, o_eq, o_ne, o_mulL, o_mulR, o_div, o_mod, o_addT, o_addL, o_iadd, Pm.ix_tup, ix_lst, Pm.sl_tup, sl_lst, b_len_t, b_len_l, b_abs, b_int_i, b_int_b, b_sum, b_all, b_any, b_tup_l, b_tup_t, b_lst_l, b_lst_t, b_max2, b_max3, b_min2, b_min3, t_bl, t_int, t_tup, t_lst, t_non, a_app, a_ext, bl_bl, decide_true, decide_false, Bool.not_true, Bool.not_false, if_true, if_false, Bool.false_eq_true, for_nil, for_cons, ls_cons, ls_nil, at0, at1, at2, at3, at4, List.cons_append, List.nil_append, List.length_cons, List.length_nil, List.length_map, n_ot, isi_int', isi_bool', isi_tup', isi_str', dn_non, dn_int, dn_tup, dn_str, dn_bl, dnn_non, dnn_int, dnn_tup, dnn_str, dnn_bl, decide_eq_true_eq, fBin, fCons, fTup, fLst, fCall, fCB, fIf, fOf, fTru, fAndB, fOrB, fNotB, fAnd, fOr, fNot, fNeg, fChain, fSl, fOSo, fItems, fZip, fEnum, fRng, fLC, fLCf, fLC2, fIn, fLz, fApp, fExt, fSetI, fIsi, isi_bool (d := .int r) rfl, isi_int (d := .int r) rfl, isiBool, isiInt, decide_eq_true h.1, decide_eq_true h.2]
theorem all_of {α : Type} {f : D → M D} {E : α → D} {l : List α} (h : ∀ x ∈ l, f (E x) = M.pure (.bl true)) : fCB allF (fCons (fLC (M.pure (l.map E)) f) fNil) = M.pure (.bl true) := by
  rw [f_lc, map_of (g := fun _ => .bl true) h, Pm.pure_bind, f_nil, f_cons, f_cb, b_all, List.map_const', blsOf_rep]
  simp only [Option.map_some, all_rep, opt_some]
theorem col_ok {c : C4} (h : okc c) : m_is_colour [col c] = M.pure (.bl true) := by
  show p_is_colour _ = _
  unfold p_is_colour
  have e : fCB allF (fCons (fLC (fItems (M.pure (col c))) fun one_ => (fCall m_is_part (fCons (M.pure one_) fNil))) fNil) = M.pure (.bl true) := by
    show fCB allF (fCons (fLC (M.pure ([c.1, c.2.1, c.2.2.1, c.2.2.2].map D.int)) _) fNil) = _
    refine all_of fun x hx => ?_
    rw [call1 m_is_part]
    refine part_eq ?_
    simp only [List.mem_cons, List.not_mem_nil, or_false] at hx
    rcases hx with rfl | rfl | rfl | rfl
    · exact h.1
    · exact h.2.1
    · exact h.2.2.1
    · exact h.2.2.2
  rw [e]
  have e1 : fIsi "tuple" (M.pure (col c)) = M.pure (.bl true) := by
    unfold col; simp only [in_int, ng_int, mx_nil, mx_cons, o_ne_self, o_eq_self, ls_lst, Pm.pure_bind, bad_bind, raise_bind, opt_some, opt_none, Pm.bind_assoc, Pm.bind_pure, f_bin, f_nil, f_cons, f_tup, f_lst, f_call, f_cb, f_if, f_of, f_ofv, f_tru, f_andB, f_orB, f_notB, f_and, f_or, f_not, f_neg, f_chain, f_sl, f_ono, f_oso, f_items, f_zip, f_enum, f_rng, f_lc, f_lcf, f_lc2, f_in, f_lz, f_app, f_ext, f_seti, f_isi, f_u2, f_u3, f_u4, i_tup, i_lst, z_tup, z_lst, zl_nil, zl_cons, en_tup, en_lst, en_nil, en_cons, x_nil, x_cons, x_map, x_pure, xf_nil, xf_cons, xc_nil, xc_cons, noEx_pure, o_add, o_sub, o_lt, o_le, o_gt, o_ge, o_eq, o_ne, o_mulL, o_mulR, o_div, o_mod, o_addT, o_addL, o_iadd, Pm.ix_tup, ix_lst, Pm.sl_tup, sl_lst, b_len_t, b_len_l, b_abs, b_int_i, b_int_b, b_sum, b_all, b_any, b_tup_l, b_tup_t, b_lst_l, b_lst_t, b_max2, b_max3, b_min2, b_min3, t_bl, t_int, t_tup, t_lst, t_non, a_app, a_ext, bl_bl, decide_true, decide_false, Bool.not_true, Bool.not_false, if_true, if_false, Bool.false_eq_true, for_nil, for_cons, ls_cons, ls_nil, at0, at1, at2, at3, at4, List.cons_append, List.nil_append, List.length_cons, List.length_nil, List.length_map, n_ot, isi_int', isi_bool', isi_tup', isi_str', dn_non, dn_int, dn_tup, dn_str, dn_bl, dnn_non, dnn_int, dnn_tup, dnn_str, dnn_bl, decide_eq_true_eq, fBin, fCons, fTup, fLst, fCall, fCB, fIf, fOf, fTru, fAndB, fOrB, fNotB, fAnd, fOr, fNot, fNeg, fChain, fSl, fOSo, fItems, fZip, fEnum, fRng, fLC, fLCf, fLC2, fIn, fLz, fApp, fExt, fSetI, fIsi, isi_tup (d := .tup _) rfl, isiTup]
  have e2 : fBin eqD (fCB lenF (fCons (M.pure (col c)) fNil)) (M.pure (D.int 4)) = M.pure (.bl true) := by
    unfold col; rw [f_nil, f_cons, f_cb, b_len_t, opt_some, f_bin, o_eq]; rfl
  rw [e1, f_and, if_pos rfl, e2, f_and, if_pos rfl]



end Pm
end
noncomputable section
namespace Pm
open PySem





section
variable {told : D} {t : Option (List Int)} {o : List (Option Ob)}
end

section
variable {s w h : Nat} (hs : 1 ≤ s) (hs2 : s ≤ 1000) (hw : 1 ≤ w ∧ w ≤ 99) (hh : 1 ≤ h ∧ h ≤ 99) (c : Nat → Nat → D)
theorem sum_nat {β : Type} (f : β → Nat) (l : List β) : fCB sumF (fCons (M.pure (D.lst (l.map fun x => D.int (f x : Nat)))) fNil) = M.pure (.int ((l.map f).sum : Nat)) := by
  rw [f_nil, f_cons, f_cb, b_sum, ints_of (fun x => ((f x : Nat) : Int)), Option.map_some, opt_some]
  congr 2
  induction l with
  | nil => rfl
  | cons a l ih => rw [List.map_cons, List.sum_cons, ih, List.map_cons, List.sum_cons]; push_cast; rfl
end

section
variable {s w h : Nat} (hs : 1 ≤ s) (hs2 : s ≤ 1000) (hw : 1 ≤ w ∧ w ≤ 99) (hh : 1 ≤ h ∧ h ≤ 60) {c : Nat → Nat → C4} (hc : okG w h c)
end
end Pm
end
noncomputable section
namespace Pm
open PySem
def p_mean_colour (colours_ : D) : M D :=
  (M.bind (fCB sumF (fCons (fLC (fItems (M.pure colours_)) fun one_ => (fBin ixD (M.pure one_) (M.pure (D.int 3)))) fNil)) fun whole_ =>
  (fIf (fOf (fBin eqD (M.pure whole_) (M.pure (D.int 0))))
  (M.pure ((.tup [(.int 0), (.int 0), (.int 0), (.int 0)]) : D))
  (M.bind (fLC (fRng (fCons (M.pure (D.int 3)) fNil)) fun at_ => (fCall m_rounded (fCons (fCB sumF (fCons (fLC (fItems (M.pure colours_)) fun one_ => (fBin mulD (fBin ixD (M.pure one_) (M.pure (D.int 3))) (fBin ixD (M.pure one_) (M.pure at_)))) fNil)) (fCons (M.pure whole_) fNil)))) fun parts_ =>
  (fTup (fCons (fBin ixD (M.pure parts_) (M.pure (D.int 0))) (fCons (fBin ixD (M.pure parts_) (M.pure (D.int 1))) (fCons (fBin ixD (M.pure parts_) (M.pure (D.int 2))) (fCons (fCall m_rounded (fCons (M.pure whole_) (fCons (fCB lenF (fCons (M.pure colours_) fNil)) fNil))) fNil))))))))
def m_mean_colour : Mf := fun ds => match ds with
  | [colours_] => p_mean_colour colours_
  | _ => M.bad

theorem rng_nat {b : Nat} (hb : b ≤ 1000) : fRng (fCons (M.pure (.int (b : Int))) fNil) = M.pure ((List.range b).map fun (k : Nat) => D.int k) := by
  rw [f_nil, f_cons, f_rng, rng_A (by omega) (by omega), opt_some]
  congr 2
def wt (c : C4) (i : Nat) : Int := if i = 0 then c.1 else if i = 1 then c.2.1 else c.2.2.1
def sW (cs : List C4) : Int := (cs.map fun c => c.2.2.2).sum
def sA (cs : List C4) (i : Nat) : Int := (cs.map fun c => c.2.2.2 * wt c i).sum
section
variable {E : List D → D} (h1 : ∀ r, lenF [E r] = some (.int r.length)) (h2 : ∀ r, itemsD (E r) = some r)
include h2 in
theorem sum_w (cs : List C4) : fCB sumF (fCons (fLC (fItems (M.pure (E (cs.map col)))) fun one_ => (fBin ixD (M.pure one_) (M.pure (D.int 3)))) fNil) = M.pure (.int (sW cs)) := by
  rw [f_items, h2, opt_some, f_lc, map_of (E := col) (l := cs) (g := fun c => D.int c.2.2.2) (fun c _ => by rw [f_bin, ix_col3]; rfl), Pm.pure_bind]
  show M.opt (sumF [.lst (cs.map fun c => D.int c.2.2.2)]) = _
  rw [b_sum, ints_of]; rfl
include h2 in
theorem sum_a {cs : List C4} (hc : ∀ c ∈ cs, okc c) {i : Nat} (hi : i < 3) : fCB sumF (fCons (fLC (fItems (M.pure (E (cs.map col)))) fun one_ => (fBin mulD (fBin ixD (M.pure one_) (M.pure (D.int 3))) (fBin ixD (M.pure one_) (M.pure (.int (i : Int)))))) fNil) = M.pure (.int (sA cs i)) := by
  rw [f_items, h2, opt_some, f_lc, map_of (E := col) (l := cs) (g := fun c => D.int (c.2.2.2 * wt c i)) (fun c hcc => ?_), Pm.pure_bind]
  · show M.opt (sumF [.lst (cs.map fun c => D.int (c.2.2.2 * wt c i))]) = _
    rw [b_sum, ints_of]; rfl
  · have h4 := (hc c hcc).2.2.2
    have e : fBin ixD (M.pure (col c)) (M.pure (.int (i : Int))) = M.pure (.int (wt c i)) := by
      match i, hi with
      | 0, _ => rw [f_bin]; exact congrArg M.opt (ix_col0 c)
      | 1, _ => rw [f_bin]; exact congrArg M.opt (ix_col1 c)
      | 2, _ => rw [f_bin]; exact congrArg M.opt (ix_col2 c)
    rw [e, f_bin, ix_col3, opt_some, f_bin, o_mulL (by omega) (by omega)]; rfl
def meaC (cs : List C4) : C4 := if sW cs = 0 then (0, 0, 0, 0) else (rnd (sA cs 0) (sW cs), rnd (sA cs 1) (sW cs), rnd (sA cs 2) (sW cs), rnd (sW cs) cs.length)
theorem sW_bd {cs : List C4} (hc : ∀ c ∈ cs, okc c) : 0 ≤ sW cs ∧ sW cs ≤ 255 * cs.length := sum_bd fun c hcc => (hc c hcc).2.2.2
theorem three_lc (f : D → M D) (g : Nat → Int) (h : ∀ i : Nat, i < 3 → f (.int i) = M.pure (.int (g i))) : fLC (fRng (fCons (M.pure (D.int 3)) fNil)) f = M.pure (.lst [.int (g 0), .int (g 1), .int (g 2)]) := by
  have e := rng_nat (b := 3) (by decide)
  rw [show (M.pure (D.int 3)) = M.pure (.int ((3 : Nat) : Int)) from rfl, e, f_lc, map_of (E := fun (k : Nat) => D.int k) (l := List.range 3) (g := fun i => D.int (g i)) (fun i hi => h i (List.mem_range.mp hi))]
  rfl
include h1 h2 in
theorem mean_eq {cs : List C4} (hc : ∀ c ∈ cs, okc c) (hl1 : 1 ≤ cs.length) (hl2 : cs.length ≤ 1000) : m_mean_colour [E (cs.map col)] = M.pure (col (meaC cs)) := by
  obtain ⟨b1, b2⟩ := sW_bd hc
  show p_mean_colour _ = _
  unfold p_mean_colour meaC
  rw [sum_w h2, Pm.pure_bind, f_bin, o_eq, opt_some, f_of, f_if]
  have el : fCB lenF (fCons (M.pure (E (cs.map col))) fNil) = M.pure (.int cs.length) := by rw [f_nil, f_cons, f_cb, h1, opt_some, List.length_map]
  by_cases z : sW cs = 0
  · have zz : (sW cs == 0) = true := by simpa using z
    rw [zz, if_pos rfl, if_pos z]; rfl
  · have zz : (sW cs == 0) = false := by simpa using z
    rw [zz, if_neg (by simp), if_neg z, three_lc _ (fun i => rnd (sA cs i) (sW cs)) (fun i hi => by rw [sum_a h2 hc hi, call2 m_rounded, rounded_eq (by omega) (by omega)]), Pm.pure_bind, f_bin, f_bin, f_bin, ix_lst, ix_lst, ix_lst, at0, at1, at2, opt_some, opt_some, opt_some, el, call2 m_rounded, rounded_eq (by omega) (by omega)]
    rfl
end

end Pm
end
noncomputable section
namespace Pm
open PySem

structure Pc3 where
  w : Nat
  h : Nat
  c : Nat → Nat → C4
structure okP (p : Pc3) : Prop where
  w1 : 1 ≤ p.w ∧ p.w ≤ 99
  h1 : 1 ≤ p.h ∧ p.h ≤ 99
  g : okG p.w p.h p.c
abbrev GrT := List (Int × List Pc3)
def ins : GrT → Int → Pc3 → GrT
  | [], k, p => [(k, [p])]
  | (k', l) :: G, k, p => if k' = k then (k', l ++ [p]) :: G else (k', l) :: ins G k p
structure okGr (G : GrT) (n : Nat) : Prop where
  len : G.length ≤ n
  els : ∀ x ∈ G, x.2 ≠ [] ∧ x.2.length ≤ n ∧ ∀ p ∈ x.2, okP p
section
variable {told : D} {t : Option (List Int)} {o : List (Option Ob)}
end


end Pm
end
noncomputable section
namespace Pm
open PySem
def p_nearest (palette_ : D) (colour_ : D) : M D :=
  (M.bind (fLC (fItems (M.pure palette_)) fun one_ => (fCall m_distance (fCons (M.pure one_) (fCons (M.pure colour_) fNil)))) fun far_ =>
  (fIdx (M.pure far_) (fCB minF (fCons (M.pure far_) fNil))))
def m_nearest : Mf := fun ds => match ds with
  | [palette_, colour_] => p_nearest palette_ colour_
  | _ => M.bad
def l0_colours_of (cell_ : D) (found_ : D) (k0_ : D → M D) : M D :=
  (M.bind (fBin addD (fGetX (M.pure found_) (M.pure cell_) (M.pure (D.int 0))) (M.pure (D.int 1))) fun a1_ => M.bind (fPutX found_ (M.pure cell_) a1_) fun found_ =>
  (k0_ found_))
def p_colours_of (picture_ : D) : M D :=
  (M.bind (M.pure (D.dt [])) fun found_ =>
  (M.bind (fItems (fBin ixD (M.pure picture_) (M.pure (D.int 2)))) fun xs2_ => fFor (l0_colours_of) xs2_ found_ fun found_ =>
  (fCB tupF (fCons (fCB sortDF (fCons (fItemsL (M.pure found_)) fNil)) fNil))))
def m_colours_of : Mf := fun ds => match ds with
  | [picture_] => p_colours_of picture_
  | _ => M.bad
def p_in_few (picture_ : D) (palette_ : D) : M D :=
  (M.bind (fDcT (fItems (fCall m_colours_of (fCons (M.pure picture_) fNil))) fun it1_ => (fU2 it1_ fun colour_ many_ => (kvM (M.pure colour_) (fBin ixD (M.pure palette_) (fCall m_nearest (fCons (M.pure palette_) (fCons (M.pure colour_) fNil))))))) fun table_ =>
  (fBin addD (fSl (M.pure picture_) fONo (fOSo (M.pure (D.int 2)))) (fTup (fCons (fCB tupF (fCons (fLC (fItems (fBin ixD (M.pure picture_) (M.pure (D.int 2)))) fun cell_ => (fIxT (M.pure table_) (M.pure cell_))) fNil)) fNil))))
def m_in_few : Mf := fun ds => match ds with
  | [picture_, palette_] => p_in_few picture_ palette_
  | _ => M.bad

def dstC (p q : C4) : Int := (p.1 - q.1) * (p.1 - q.1) + ((p.2.1 - q.2.1) * (p.2.1 - q.2.1) + ((p.2.2.1 - q.2.2.1) * (p.2.2.1 - q.2.2.1) + ((p.2.2.2 - q.2.2.2) * (p.2.2.2 - q.2.2.2) + 0)))
theorem dist_C {p q : C4} (hp : okc p) (hq : okc q) : m_distance [col p, col q] = M.pure (.int (dstC p q)) := distance_eq hp hq
theorem min_spec : ∀ (l : List Int) (d : Int), l.foldl min d ∈ d :: l ∧ ∀ z ∈ d :: l, l.foldl min d ≤ z
  | [], d => ⟨by simp, by simp⟩
  | x :: l, d => by
    obtain ⟨h1, h2⟩ := min_spec l (min d x)
    rw [List.foldl_cons]
    refine ⟨?_, fun z hz => ?_⟩
    · rcases List.mem_cons.mp h1 with h | h
      · rw [h]
        rcases Int.le_total d x with q | q
        · rw [Int.min_eq_left q]; simp
        · rw [Int.min_eq_right q]; simp
      · exact List.mem_cons_of_mem _ (List.mem_cons_of_mem _ h)
    · have h0 := h2 (min d x) List.mem_cons_self
      rcases List.mem_cons.mp hz with rfl | hz
      · omega
      · rcases List.mem_cons.mp hz with rfl | hz
        · omega
        · exact h2 z (List.mem_cons_of_mem _ hz)
theorem idx_spec (m : Int) : ∀ (l : List Int), m ∈ l → ∃ j, (l.map D.int).findIdx? (fun z => deq z (.int m)) = some j ∧ l[j]? = some m ∧ ∀ i, i < j → l[i]? ≠ some m
  | [], h => by simp at h
  | x :: l, h => by
    have e : deq (D.int x) (.int m) = (x == m) := by unfold deq; rfl
    rw [List.map_cons, List.findIdx?_cons, e]
    by_cases z : x = m
    · subst z
      exact ⟨0, by simp, rfl, fun i hi => by omega⟩
    · have : (x == m) = false := by simpa using z
      rw [this]
      rcases List.mem_cons.mp h with q | q
      · exact absurd q.symm z
      · obtain ⟨j, h1, h2, h3⟩ := idx_spec m l q
        refine ⟨j + 1, by simp [h1], by simpa using h2, fun i hi => ?_⟩
        cases i with
        | zero => simpa using z
        | succ i => simpa using h3 i (by omega)
theorem minPL_spec : ∀ (l : List (Int × Int)) (p : Int × Int), minPL p l ∈ p :: l ∧ ∀ z ∈ p :: l, ltP z (minPL p l) = false
  | [], p => ⟨by simp [minPL], fun z hz => by simp at hz; subst hz; simp [minPL, ltP]⟩
  | x :: l, p => by
    have e : minPL p (x :: l) = minPL (if ltP x p then x else p) l := rfl
    rw [e]
    obtain ⟨h1, h2⟩ := minPL_spec l (if ltP x p then x else p)
    have h0 := h2 _ List.mem_cons_self
    refine ⟨?_, fun z hz => ?_⟩
    · rcases List.mem_cons.mp h1 with h | h
      · rw [h]; split <;> simp
      · exact List.mem_cons_of_mem _ (List.mem_cons_of_mem _ h)
    · generalize minPL (if ltP x p then x else p) l = r at h0 h2 ⊢
      have both : ltP x r = false ∧ ltP p r = false := by
        by_cases q : ltP x p = true
        · rw [if_pos q] at h0
          simp only [ltP, decide_eq_false_iff_not, decide_eq_true_eq] at *
          omega
        · rw [if_neg q] at h0
          simp only [ltP, decide_eq_false_iff_not, decide_eq_true_eq] at *
          omega
      rcases List.mem_cons.mp hz with rfl | hz
      · exact both.2
      · rcases List.mem_cons.mp hz with rfl | hz
        · exact both.1
        · exact h2 z (List.mem_cons_of_mem _ hz)
def dk (ps : List C4) (q : C4) (k : Nat) : Int := dstC (ps.getD k default) q
def isNear (ps : List C4) (q : C4) (k : Nat) : Prop := k < ps.length ∧ ∀ i, i < ps.length → ¬ (dk ps q i < dk ps q k ∨ (dk ps q i = dk ps q k ∧ i < k))
theorem get_k {ps : List C4} {k : Nat} (hk : k < ps.length) : ps[k]? = some (ps.getD k default) := by
  rw [List.getD_eq_getElem?_getD, List.getElem?_eq_getElem hk]; rfl
theorem near_ex {ps : List C4} (h0 : ps ≠ []) (q : C4) : ∃ k, isNear ps q k ∧ ∃ p0 pr, (List.range ps.length).map (fun i => (dk ps q i, ((i : Nat) : Int))) = p0 :: pr ∧ minPL p0 pr = (dk ps q k, (k : Int)) := by
  have hn : 0 < ps.length := List.length_pos_iff.mpr h0
  obtain ⟨r1, r2⟩ := minPL_spec ((List.range (ps.length - 1)).map fun i => (dk ps q (i + 1), ((i + 1 : Nat) : Int))) (dk ps q 0, 0)
  generalize hM : minPL (dk ps q 0, 0) ((List.range (ps.length - 1)).map fun i => (dk ps q (i + 1), ((i + 1 : Nat) : Int))) = M0 at r1 r2
  have lst : (List.range ps.length).map (fun i => (dk ps q i, ((i : Nat) : Int))) = (dk ps q 0, 0) :: (List.range (ps.length - 1)).map fun i => (dk ps q (i + 1), ((i + 1 : Nat) : Int)) := by
    obtain ⟨m, hm⟩ : ∃ m, ps.length = m + 1 := ⟨ps.length - 1, by omega⟩
    rw [hm, List.range_succ_eq_map, List.map_cons, List.map_map, Nat.add_sub_cancel]
    rfl
  rw [← lst] at r1 r2
  obtain ⟨k, hk, rfl⟩ := List.mem_map.mp r1
  have hk := List.mem_range.mp hk
  refine ⟨k, ⟨hk, fun i hi => ?_⟩, _, _, lst, hM⟩
  have := r2 _ (List.mem_map.mpr ⟨i, List.mem_range.mpr hi, rfl⟩)
  simp only [ltP, decide_eq_false_iff_not] at this
  omega
open Classical in
def nearK (ps : List C4) (q : C4) : Nat := if h : ps ≠ [] then (near_ex h q).choose else 0
theorem near_is {ps : List C4} (h0 : ps ≠ []) (q : C4) : isNear ps q (nearK ps q) := by
  unfold nearK
  rw [dif_pos h0]
  exact (near_ex h0 q).choose_spec.1
def nearC (ps : List C4) (q : C4) : C4 := ps.getD (nearK ps q) default
theorem near_mem {ps : List C4} (h0 : ps ≠ []) (q : C4) : nearC ps q ∈ ps := List.mem_of_getElem? (get_k (near_is h0 q).1)
theorem near_ix {ps : List C4} (h0 : ps ≠ []) (q : C4) : fBin ixD (M.pure (.tup (ps.map col))) (M.pure (.int (nearK ps q))) = M.pure (col (nearC ps q)) := by
  rw [f_bin, Pm.ix_tup, at_map (E := col) (n := nearK ps q) rfl (get_k (near_is h0 q).1), opt_some]; rfl
theorem nearest_eq {ps : List C4} (h0 : ps ≠ []) (hz : ps.length ≤ 1000) (hps : ∀ p ∈ ps, okc p) {q : C4} (hq : okc q) : m_nearest [.tup (ps.map col), col q] = M.pure (.int (nearK ps q)) := by
  obtain ⟨hk, least⟩ := near_is h0 q
  generalize nearK ps q = k at hk least ⊢
  have dsl : ps.map (fun p => dstC p q) = (List.range ps.length).map (dk ps q) := by
    refine List.ext_getElem? fun i => ?_
    by_cases hi : i < ps.length
    · rw [List.getElem?_map, List.getElem?_map, List.getElem?_range hi, get_k hi]; rfl
    · rw [List.getElem?_eq_none (by simp; omega), List.getElem?_eq_none (by simp; omega)]
  obtain ⟨d0, dr, hds⟩ : ∃ d0 dr, ps.map (fun p => dstC p q) = d0 :: dr := by
    cases hh : ps.map (fun p => dstC p q) with
    | nil => exact absurd (List.map_eq_nil_iff.mp hh) h0
    | cons a l => exact ⟨a, l, rfl⟩
  obtain ⟨m1, m2⟩ := min_spec dr d0
  rw [← hds] at m1 m2
  obtain ⟨j, j1, j2, j3⟩ := idx_spec (dr.foldl min d0) _ m1
  rw [dsl] at j1 j2 j3 m2
  have hj : j < ps.length := by
    have := (List.getElem?_eq_some_iff.mp j2).1
    simpa using this
  have gj : ∀ i, i < ps.length → ((List.range ps.length).map (dk ps q))[i]? = some (dk ps q i) := fun i hi => by rw [List.getElem?_map, List.getElem?_range hi]; rfl
  have hjk : j = k := by
    have a1 : dk ps q j = dr.foldl min d0 := by
      rw [gj j hj] at j2
      exact Option.some.inj j2
    have a2 := m2 (dk ps q k) (List.mem_map.mpr ⟨k, List.mem_range.mpr hk, rfl⟩)
    have a3 := least j hj
    have a4 : k < j → dk ps q k ≠ dr.foldl min d0 := fun h e => j3 k h (by rw [gj k hk, e])
    have a5 : dk ps q k = dr.foldl min d0 := by omega
    have a6 : ¬ k < j := fun h => a4 h a5
    have a7 : ¬ j < k := fun h => a3 (.inr ⟨by omega, h⟩)
    omega
  subst hjk
  show p_nearest _ _ = _
  unfold p_nearest
  have e1 : fLC (fItems (M.pure (.tup (ps.map col)))) (fun one_ => (fCall m_distance (fCons (M.pure one_) (fCons (M.pure (col q)) fNil)))) = M.pure (.lst (((List.range ps.length).map (dk ps q)).map D.int)) := by
    rw [f_items, i_tup, opt_some, f_lc, map_of (g := fun p => .int (dstC p q))]
    · rw [Pm.pure_bind, ← dsl, List.map_map]; rfl
    · intro p hp
      rw [call2 m_distance, dist_C (hps p hp) hq]
  have e2 : fCB minF (fCons (M.pure (.lst (((List.range ps.length).map (dk ps q)).map D.int))) fNil) = M.pure (.int (dr.foldl min d0)) := by
    rw [f_nil, f_cons, f_cb, ← dsl, hds]
    show M.opt ((intsOf ((d0 :: dr).map D.int)).bind _) = _
    rw [intsOf_map]
    rfl
  rw [e1, Pm.pure_bind, e2]
  show M.opt (idxL (((List.range ps.length).map (dk ps q)).map D.int) (.int (dr.foldl min d0))) = _
  unfold idxL
  rw [if_pos ⟨okd_int _ _, by rw [List.all_eq_true]; intro d hd; obtain ⟨i, _, rfl⟩ := List.mem_map.mp hd; exact okd_int _ _⟩, j1]
  rfl

section
variable {κ : Type} [DecidableEq κ]
theorem anyG_some (k : κ) : ∀ es : List (κ × D), (es.any fun kv => decide (kv.1 = k)) = (valG es k).isSome
  | [] => rfl
  | x :: es => by
    unfold valG
    rw [List.any_cons, List.find?_cons]
    by_cases z : x.1 = k
    · rw [decide_eq_true z]; rfl
    · rw [decide_eq_false z]
      exact (Bool.false_or _).trans (anyG_some k es)
theorem valG_cons (x : κ × D) (es : List (κ × D)) (j : κ) : valG (x :: es) j = if x.1 = j then some x.2 else valG es j := by
  unfold valG
  rw [List.find?_cons]
  by_cases z : x.1 = j
  · rw [decide_eq_true z, if_pos z]; rfl
  · rw [decide_eq_false z, if_neg z]
theorem valG_rep (k j : κ) (v : D) : ∀ es : List (κ × D), valG (es.map fun kv => if kv.1 = k then (kv.1, v) else kv) j = (valG es j).map fun d => if j = k then v else d
  | [] => rfl
  | x :: es => by
    rw [List.map_cons, valG_cons, valG_cons, valG_rep k j v es]
    by_cases z : x.1 = k
    · rw [if_pos z]
      by_cases y : x.1 = j
      · rw [if_pos y, if_pos y]
        have : j = k := y.symm.trans z
        simp [this]
      · rw [if_neg y, if_neg y]
    · rw [if_neg z]
      by_cases y : x.1 = j
      · rw [if_pos y, if_pos y]
        have : ¬ j = k := fun e => z (y.trans e)
        simp [this]
      · rw [if_neg y, if_neg y]
theorem valG_snoc (k j : κ) (v : D) : ∀ es : List (κ × D), valG (es ++ [(k, v)]) j = match valG es j with | some d => some d | none => if k = j then some v else none
  | [] => by show valG [(k, v)] j = _; rw [valG_cons]; rfl
  | x :: es => by
    rw [List.cons_append, valG_cons, valG_cons, valG_snoc k j v es]
    by_cases y : x.1 = j
    · rw [if_pos y, if_pos y]
    · rw [if_neg y, if_neg y]
theorem valG_put (es : List (κ × D)) (k j : κ) (v : D) : valG (putG es k v) j = if j = k then some v else valG es j := by
  unfold putG
  rw [anyG_some]
  cases q : valG es k with
  | none =>
    rw [if_neg (by simp), valG_snoc]
    by_cases z : j = k
    · subst z; simp [q]
    · rw [if_neg z]
      cases valG es j with
      | none => simp [Ne.symm z]
      | some d => rfl
  | some d =>
    rw [if_pos (show (some d).isSome = true from rfl), valG_rep]
    by_cases z : j = k
    · subst z; rw [q, if_pos rfl]; simp
    · rw [if_neg z]
      cases valG es j with
      | none => rfl
      | some d => simp [z]
theorem putG_len (es : List (κ × D)) (k : κ) (v : D) : (putG es k v).length ≤ es.length + 1 := by
  unfold putG
  split <;> simp
end

def keyC (p : C4) : List L2.Key := [.inl p.1, .inl p.2.1, .inl p.2.2.1, .inl p.2.2.2]
theorem keyC_inj {p q : C4} (h : keyC p = keyC q) : p = q := by
  unfold keyC at h
  simp only [List.cons.injEq, Sum.inl.injEq, and_true] at h
  obtain ⟨a, b, c, d⟩ := h
  exact Prod.ext a (Prod.ext b (Prod.ext c d))
theorem keyI_col (p : C4) : keyI (col p) = some (keyC p) := rfl
abbrev CN := C4 × Nat
def dtC (cs : List CN) : List (List L2.Key × D) := cs.map fun e => (keyC e.1, D.int e.2)
def addC (cs : List CN) (p : C4) : List CN := if p ∈ cs.map (·.1) then cs.map (fun e => if e.1 = p then (e.1, e.2 + 1) else e) else cs ++ [(p, 1)]
def numC (cs : List CN) (p : C4) : Nat := ((cs.find? fun e => decide (e.1 = p)).map (·.2)).getD 0
theorem val_dtC (p : C4) : ∀ cs : List CN, (valG (dtC cs) (keyC p)).getD (.int 0) = .int (numC cs p)
  | [] => rfl
  | e :: cs => by
    show (valG ((keyC e.1, D.int e.2) :: dtC cs) (keyC p)).getD _ = _
    rw [valG_cons]
    unfold numC
    rw [List.find?_cons]
    by_cases z : e.1 = p
    · rw [if_pos (by rw [z]), decide_eq_true z]; rfl
    · rw [if_neg (fun q => z (keyC_inj q)), decide_eq_false z]
      exact val_dtC p cs
theorem some_dtC (p : C4) : ∀ cs : List CN, (valG (dtC cs) (keyC p)).isSome = decide (p ∈ cs.map (·.1))
  | [] => rfl
  | e :: cs => by
    show (valG ((keyC e.1, D.int e.2) :: dtC cs) (keyC p)).isSome = _
    rw [valG_cons]
    by_cases z : e.1 = p
    · rw [if_pos (by rw [z])]; simp [z]
    · rw [if_neg (fun q => z (keyC_inj q)), some_dtC p cs]
      simp [Ne.symm z]
theorem put_dtC (cs : List CN) (p : C4) : (cs.map (·.1)).Nodup → putG (dtC cs) (keyC p) (.int ((numC cs p : Int) + 1)) = dtC (addC cs p) := fun hn => by
  unfold putG addC
  rw [anyG_some, some_dtC]
  by_cases h : p ∈ cs.map (·.1)
  · rw [if_pos (by simpa using h), if_pos h]
    have key : ∀ cs : List CN, ∀ n : Nat, (∀ e ∈ cs, e.1 = p → e.2 = n) → (dtC cs).map (fun kv => if kv.1 = keyC p then (kv.1, D.int ((n : Int) + 1)) else kv) = dtC (cs.map fun e => if e.1 = p then (e.1, e.2 + 1) else e) := by
      intro cs n h
      unfold dtC
      rw [List.map_map, List.map_map]
      refine List.map_congr_left fun e he => ?_
      show (if keyC e.1 = keyC p then (keyC e.1, D.int ((n : Int) + 1)) else (keyC e.1, D.int e.2)) = (keyC (if e.1 = p then (e.1, e.2 + 1) else e).1, D.int ((if e.1 = p then (e.1, e.2 + 1) else e).2 : Nat))
      by_cases z : e.1 = p
      · rw [if_pos (by rw [z]), if_pos z, ← h e he z]; rfl
      · rw [if_neg (fun q => z (keyC_inj q)), if_neg z]
    refine key cs (numC cs p) fun e he hz => ?_
    clear h key
    induction cs with
    | nil => cases he
    | cons x cs ih =>
      rw [List.map_cons, List.nodup_cons] at hn
      unfold numC
      rw [List.find?_cons]
      by_cases z : x.1 = p
      · rw [decide_eq_true z]
        rcases List.mem_cons.mp he with rfl | he
        · rfl
        · exact absurd (List.mem_map.mpr ⟨e, he, hz.trans z.symm⟩) hn.1
      · rw [decide_eq_false z]
        rcases List.mem_cons.mp he with rfl | he
        · exact absurd hz z
        · exact ih hn.2 he
  · rw [if_neg (by simpa using h), if_neg h]
    have : numC cs p = 0 := by
      unfold numC
      rw [List.find?_eq_none.mpr (fun e he => by simp only [decide_eq_true_eq]; exact fun z => h (List.mem_map.mpr ⟨e, he, z⟩))]
      rfl
    rw [this]
    unfold dtC
    rw [List.map_append]
    rfl
def countC (ps : List C4) : List CN := ps.foldl addC []
theorem add_mem (cs : List CN) (p q : C4) : q ∈ (addC cs p).map (·.1) ↔ q ∈ cs.map (·.1) ∨ q = p := by
  unfold addC
  split
  · rename_i h
    have e : (cs.map fun e => if e.1 = p then (e.1, e.2 + 1) else e).map (·.1) = cs.map (·.1) := by
      rw [List.map_map]
      refine List.map_congr_left fun e _ => ?_
      show (if e.1 = p then (e.1, e.2 + 1) else e).1 = e.1
      split <;> rfl
    rw [e]
    exact ⟨.inl, fun z => z.elim id fun z => by rw [z]; exact h⟩
  · rw [List.map_append, List.mem_append]
    simp
theorem add_nodup {cs : List CN} {p : C4} (h : (cs.map (·.1)).Nodup) : ((addC cs p).map (·.1)).Nodup := by
  unfold addC
  split
  · have e : (cs.map fun e => if e.1 = p then (e.1, e.2 + 1) else e).map (·.1) = cs.map (·.1) := by
      rw [List.map_map]
      refine List.map_congr_left fun e _ => ?_
      show (if e.1 = p then (e.1, e.2 + 1) else e).1 = e.1
      split <;> rfl
    rw [e]; exact h
  · rename_i z
    rw [List.map_append, List.nodup_append]
    refine ⟨h, by simp, fun a ha b hb => ?_⟩
    simp only [List.map_cons, List.map_nil, List.mem_singleton] at hb
    subst hb
    exact fun e => z (by rw [← e]; exact ha)
theorem add_len (cs : List CN) (p : C4) : (addC cs p).length ≤ cs.length + 1 := by
  unfold addC
  split <;> simp
theorem fold_nodup : ∀ (ps : List C4) (cs : List CN), (cs.map (·.1)).Nodup → ((ps.foldl addC cs).map (·.1)).Nodup
  | [], _, h => h
  | p :: ps, cs, h => fold_nodup ps _ (add_nodup h)
theorem fold_mem (q : C4) : ∀ (ps : List C4) (cs : List CN), q ∈ (ps.foldl addC cs).map (·.1) ↔ q ∈ cs.map (·.1) ∨ q ∈ ps
  | [], cs => by simp
  | p :: ps, cs => by
    rw [List.foldl_cons, fold_mem q ps, add_mem, List.mem_cons, or_assoc]
theorem fold_len : ∀ (ps : List C4) (cs : List CN), (ps.foldl addC cs).length ≤ cs.length + ps.length
  | [], _ => by simp
  | p :: ps, cs => by
    have := fold_len ps (addC cs p)
    have := add_len cs p
    simp only [List.foldl_cons, List.length_cons]
    omega
theorem count_nodup (ps : List C4) : ((countC ps).map (·.1)).Nodup := fold_nodup ps [] (by simp)
theorem count_mem {ps : List C4} {q : C4} : q ∈ (countC ps).map (·.1) ↔ q ∈ ps := by
  unfold countC
  rw [fold_mem]; simp
theorem count_len (ps : List C4) : (countC ps).length ≤ ps.length := by have := fold_len ps []; simpa [countC] using this
theorem for_count {α : Type} {body : D → D → (D → M α) → M α} (hb : ∀ (p : C4) (cs : List CN) (k : D → M α), (cs.map (·.1)).Nodup → cs.length < 5000 → body (col p) (.dt (dtC cs)) k = k (.dt (dtC (addC cs p)))) : ∀ (ps : List C4) (cs : List CN) (k : D → M α), (cs.map (·.1)).Nodup → cs.length + ps.length ≤ 5000 →
    fFor body (ps.map col) (.dt (dtC cs)) k = k (.dt (dtC (ps.foldl addC cs)))
  | [], cs, k, _, _ => rfl
  | p :: ps, cs, k, hn, hl => by
    simp only [List.length_cons] at hl
    have := add_len cs p
    rw [List.map_cons, for_cons, hb p cs _ hn (by omega), for_count hb ps _ k (add_nodup hn) (by omega)]
    rfl
theorem getX_dtC (cs : List CN) (p : C4) : fGetX (M.pure (.dt (dtC cs))) (M.pure (col p)) (M.pure (D.int 0)) = M.pure (.int (numC cs p)) := by
  show M.opt ((keyI (col p)).map fun kk => (valG (dtC cs) kk).getD (.int 0)) = _
  rw [keyI_col, Option.map_some, val_dtC]; rfl
theorem putX_dtC {cs : List CN} (p : C4) (hn : (cs.map (·.1)).Nodup) (hl : cs.length < 5000) : fPutX (.dt (dtC cs)) (M.pure (col p)) (.int ((numC cs p : Int) + 1)) = M.pure (.dt (dtC (addC cs p))) := by
  show M.opt ((keyI (col p)).bind fun kk => if (dtC cs).length < sizeLine then some (D.dt (putG (dtC cs) kk (.int ((numC cs p : Int) + 1)))) else none) = _
  rw [keyI_col, Option.bind_some, if_pos (by rw [sizeIs]; unfold dtC; rw [List.length_map]; omega), put_dtC cs p hn]; rfl

theorem lex_app {x y r t : List (Int ⊕ List Nat)} (hl : x.length = y.length) (hne : x ≠ y) : PyProof.Rows.lexLt PyProof.Rows.itemOrd (x ++ r) (y ++ t) = PyProof.Rows.lexLt PyProof.Rows.itemOrd x y := by
  induction x generalizing y with
  | nil =>
    cases y with
    | nil => exact absurd rfl hne
    | cons _ _ => cases hl
  | cons a x ih =>
    cases y with
    | nil => cases hl
    | cons b y =>
      show (PyProof.Rows.itemOrd.blt a b || (!PyProof.Rows.itemOrd.blt b a && PyProof.Rows.lexLt PyProof.Rows.itemOrd (x ++ r) (y ++ t))) = (PyProof.Rows.itemOrd.blt a b || (!PyProof.Rows.itemOrd.blt b a && PyProof.Rows.lexLt PyProof.Rows.itemOrd x y))
      by_cases e : a = b
      · subst e
        rw [ih (by simpa using hl) (fun z => hne (by rw [z]))]
      · cases q1 : PyProof.Rows.itemOrd.blt a b with
        | true => rfl
        | false =>
          cases q2 : PyProof.Rows.itemOrd.blt b a with
          | true => rfl
          | false => exact absurd (PyProof.Rows.itemOrd.total a b q1 q2) e
def itC (e : CN) : D := .tup [col e.1, .int e.2]
def tokC (p : C4) : List (Int ⊕ List Nat) := [.inl 1, .inl p.1, .inl 1, .inl p.2.1, .inl 1, .inl p.2.2.1, .inl 1, .inl p.2.2.2, .inl 0]
theorem tok_inj {p q : C4} (h : tokC p = tokC q) : p = q := by
  unfold tokC at h
  simp only [List.cons.injEq, Sum.inl.injEq, and_true, true_and] at h
  obtain ⟨a, b, c, d⟩ := h
  exact Prod.ext a (Prod.ext b (Prod.ext c d))
theorem tok_col (p : C4) : PySem.W.keyToks (toPy (col p)) = tokC p := rfl
theorem tok_it (e : CN) : PySem.W.keyToks (toPy (itC e)) = .inl 1 :: (tokC e.1 ++ [.inl 1, .inl e.2, .inl 0]) := rfl
theorem srt_def (a b : D) : srtD a b = !PyProof.Rows.lexLt PyProof.Rows.itemOrd (PySem.W.keyToks (toPy b)) (PySem.W.keyToks (toPy a)) := rfl
theorem srt_self (a : D) : srtD a a = true := by
  rw [srt_def, PyProof.Rows.lex_irrefl]; rfl
theorem srt_it {a b : CN} (h : a.1 ≠ b.1) : srtD (itC a) (itC b) = srtD (col a.1) (col b.1) := by
  rw [srt_def, srt_def, tok_it, tok_it, tok_col, tok_col]
  refine congrArg (fun z => !z) ?_
  show (false || (!false && PyProof.Rows.lexLt PyProof.Rows.itemOrd (tokC b.1 ++ _) (tokC a.1 ++ _))) = _
  rw [lex_app (x := tokC b.1) (y := tokC a.1) rfl (fun z => h (tok_inj z).symm)]
  simp
def sortC (cs : List CN) : List CN := cs.mergeSort fun a b => srtD (col a.1) (col b.1)
theorem sort_mem {cs : List CN} {e : CN} : e ∈ sortC cs ↔ e ∈ cs := List.mem_mergeSort
theorem cn_uniq {cs : List CN} {a b : CN} (hn : (cs.map (·.1)).Nodup) (ha : a ∈ cs) (hb : b ∈ cs) (z : a.1 = b.1) : a = b := by
  induction cs with
  | nil => cases ha
  | cons x cs ih =>
    rw [List.map_cons, List.nodup_cons] at hn
    rcases List.mem_cons.mp ha with e1 | h1 <;> rcases List.mem_cons.mp hb with e2 | h2
    · rw [e1, e2]
    · exact absurd (List.mem_map.mpr ⟨b, h2, by rw [← e1]; exact z.symm⟩) hn.1
    · exact absurd (List.mem_map.mpr ⟨a, h1, by rw [← e2]; exact z⟩) hn.1
    · exact ih hn.2 h1 h2
theorem sort_it {cs : List CN} (hn : (cs.map (·.1)).Nodup) : (cs.map itC).mergeSort srtD = (sortC cs).map itC := by
  rw [← sort_map itC srtD]
  refine congrArg _ ?_
  unfold sortC
  have h := List.map_mergeSort (f := fun e : CN => e) (r := fun a b => srtD (itC a) (itC b)) (s := fun a b => srtD (col a.1) (col b.1)) (l := cs) fun a ha b hb => by
    by_cases z : a.1 = b.1
    · have e : a = b := cn_uniq hn ha hb z
      subst e
      rw [srt_self, srt_self]
    · exact srt_it z
  simpa using h
theorem okSort_it (cs : List CN) : okSort (cs.map itC) = true := by
  unfold okSort
  rw [Bool.and_eq_true, Bool.and_eq_true, Bool.or_eq_true]
  refine ⟨⟨?_, ?_⟩, .inl ?_⟩
  · rw [List.all_eq_true]
    intro d hd
    obtain ⟨e, _, rfl⟩ := List.mem_map.mp hd
    rfl
  · rw [List.all_eq_true]
    intro d hd
    obtain ⟨e, _, rfl⟩ := List.mem_map.mp hd
    rw [List.all_eq_true]
    intro d hd
    obtain ⟨e', _, rfl⟩ := List.mem_map.mp hd
    rfl
  · rw [List.all_eq_true]
    intro d hd
    obtain ⟨e, _, rfl⟩ := List.mem_map.mp hd
    rfl
theorem items_dtC {cs : List CN} (hl : cs.length ≤ 5000) : fItemsL (M.pure (.dt (dtC cs))) = M.pure (.lst (cs.map itC)) := by
  show M.opt (if okItems (dtC cs) = true then some (itemsDt (dtC cs)) else none) = _
  have hok : okItems (dtC cs) = true := by
    unfold okItems
    rw [Bool.and_eq_true, decide_eq_true_eq, List.all_eq_true]
    refine ⟨by rw [sizeIs]; unfold dtC; rw [List.length_map]; omega, fun p hp => ?_⟩
    obtain ⟨e, _, rfl⟩ := List.mem_map.mp hp
    rfl
  rw [if_pos hok, opt_some]
  unfold itemsDt dtC
  rw [List.map_map]
  rfl
theorem colours_eq (a b : D) {ps : List C4} (hl : ps.length ≤ 5000) : m_colours_of [.tup [a, b, .tup (ps.map col)]] = M.pure (.tup ((sortC (countC ps)).map itC)) := by
  show p_colours_of _ = _
  unfold p_colours_of
  have e1 : fItems (fBin ixD (M.pure (.tup [a, b, .tup (ps.map col)])) (M.pure (D.int 2))) = M.pure (ps.map col) := rfl
  have hc := count_len ps
  rw [Pm.pure_bind, e1, Pm.pure_bind, show D.dt [] = D.dt (dtC []) from rfl, for_count (fun p cs k hn hl => ?_) ps [] _ (by simp) (by simpa using hl), show ps.foldl addC [] = countC ps from rfl, items_dtC (by omega), f_nil, f_cons, f_cb]
  · show (fCB tupF (fCons (M.opt (if okSort ((countC ps).map itC) = true then some (D.lst (((countC ps).map itC).mergeSort srtD)) else none)) (M.pure []))) = _
    rw [if_pos (okSort_it _), sort_it (count_nodup ps), opt_some]
    rfl
  · unfold l0_colours_of
    rw [getX_dtC, f_bin, o_add, opt_some, Pm.pure_bind, putX_dtC p hn hl, Pm.pure_bind]

theorem dc_tab {α : Type} {f : D → M (D × D)} {E : α → D} {g : α → C4} {F : C4 → D} : ∀ (l : List α) (es : List (List L2.Key × D)), (∀ x ∈ l, f (E x) = M.pure (col (g x), F (g x))) → es.length + l.length ≤ 5000 →
    ∃ es', fDcM f (l.map E) es = M.pure es' ∧ es'.length ≤ es.length + l.length ∧ ∀ p, valG es' (keyC p) = if p ∈ l.map g then some (F p) else valG es (keyC p)
  | [], es, _, _ => ⟨es, rfl, by simp, fun p => by simp⟩
  | x :: l, es, h, hl => by
    simp only [List.length_cons] at hl
    have h1 := putG_len es (keyC (g x)) (F (g x))
    obtain ⟨es', e1, e2, e3⟩ := dc_tab l (putG es (keyC (g x)) (F (g x))) (fun y hy => h y (List.mem_cons_of_mem _ hy)) (by omega)
    refine ⟨es', ?_, by simp only [List.length_cons]; omega, fun p => ?_⟩
    · rw [List.map_cons]
      show (noEx (f (E x))).bind _ = _
      rw [h x List.mem_cons_self, noEx_pure, Pm.pure_bind]
      show (M.opt ((keyI (col (g x))).bind fun kk => if es.length < sizeLine then some (putG es kk (F (g x))) else none)).bind _ = _
      rw [keyI_col, Option.bind_some, if_pos (by rw [sizeIs]; omega), opt_some, Pm.pure_bind, e1]
    · rw [e3, valG_put, List.map_cons]
      by_cases z : p ∈ l.map g
      · rw [if_pos z, if_pos (List.mem_cons_of_mem _ z)]
      · rw [if_neg z]
        by_cases y : p = g x
        · rw [if_pos (by rw [y]), if_pos (by rw [y]; exact List.mem_cons_self), y]
        · rw [if_neg (fun q => y (keyC_inj q)), if_neg (by simp [y, z])]
theorem sort_fst {ps : List C4} {p : C4} (h : p ∈ ps) : p ∈ (sortC (countC ps)).map (·.1) := by
  obtain ⟨e, he, rfl⟩ := List.mem_map.mp (count_mem.mpr h)
  exact List.mem_map.mpr ⟨e, sort_mem.mpr he, rfl⟩
theorem sort_len (ps : List C4) : (sortC (countC ps)).length ≤ ps.length := by
  unfold sortC
  rw [List.length_mergeSort]
  exact count_len ps
theorem sort_okc {ps : List C4} (h : ∀ p ∈ ps, okc p) : ∀ e ∈ sortC (countC ps), okc e.1 := fun e he => h _ (count_mem.mp (List.mem_map.mpr ⟨e, sort_mem.mp he, rfl⟩))
theorem few_eq (a b : D) {ps qs : List C4} (hl : ps.length ≤ 5000) (hp : ∀ p ∈ ps, okc p) (h0 : qs ≠ []) (hz : qs.length ≤ 1000) (hq : ∀ q ∈ qs, okc q) :
    m_in_few [.tup [a, b, .tup (ps.map col)], .tup (qs.map col)] = M.pure (.tup [a, b, .tup (ps.map fun p => col (nearC qs p))]) := by
  show p_in_few _ _ = _
  unfold p_in_few
  have hs := sort_len ps
  obtain ⟨es, e1, e2, e3⟩ := dc_tab (f := fun it1_ => (fU2 it1_ fun colour_ many_ => (kvM (M.pure colour_) (fBin ixD (M.pure (.tup (qs.map col))) (fCall m_nearest (fCons (M.pure (.tup (qs.map col))) (fCons (M.pure colour_) fNil))))))) (E := itC) (g := fun e : CN => e.1) (F := fun p => col (nearC qs p)) (sortC (countC ps)) [] (fun e he => by
    show kvM (M.pure (col e.1)) _ = _
    rw [call2 m_nearest, nearest_eq h0 hz hq (sort_okc hp e he), near_ix h0]; rfl) (by simp; omega)
  have d1 : fDcT (fItems (fCall m_colours_of (fCons (M.pure (.tup [a, b, .tup (ps.map col)])) fNil))) (fun it1_ => (fU2 it1_ fun colour_ many_ => (kvM (M.pure colour_) (fBin ixD (M.pure (.tup (qs.map col))) (fCall m_nearest (fCons (M.pure (.tup (qs.map col))) (fCons (M.pure colour_) fNil))))))) = M.pure (.dt es) := by
    rw [call1 m_colours_of, colours_eq a b hl, f_items, i_tup, opt_some]
    unfold fDcT
    rw [Pm.pure_bind, e1, Pm.pure_bind]
  have e4 : fItems (fBin ixD (M.pure (.tup [a, b, .tup (ps.map col)])) (M.pure (D.int 2))) = M.pure (ps.map col) := rfl
  have e5 : fSl (M.pure (.tup [a, b, .tup (ps.map col)])) fONo (fOSo (M.pure (D.int 2))) = M.pure (.tup [a, b]) := rfl
  rw [d1, Pm.pure_bind, e5, e4, f_lc, map_of (g := fun p => col (nearC qs p)) (fun p hp => ?_)]
  · rfl
  · show M.opt ((keyI (col p)).bind fun kk => valG es kk) = _
    rw [keyI_col, Option.bind_some, e3, if_pos (sort_fst hp), opt_some]
end Pm
end
noncomputable section
namespace Pm
open PySem
end Pm
namespace Rn
open PySem Pm
def run (b : Int) : List Int → Nat
  | [] => 0
  | x :: r => if x = b then run b r + 1 else 0
def bt (bs : List Int) (i : Nat) : Int := bs.getD i 0
def al (bs : List Int) (a : Nat) : Nat := 1 + run (bt bs a) (bs.drop (a + 1))
def lp (bs : List Int) (a m : Nat) : Bool := decide (m < 128) && (decide (a + m < bs.length) && decide (al bs (a + m) < 3))
def lit (bs : List Int) (a : Nat) : Nat := (whlO (lp bs a) (fun m => some (m + 1)) 127 1).getD 0
def more (bs : List Int) (st : List Int × Nat) : Bool := decide (st.2 < bs.length)
def byt (b : Int) : Prop := 0 ≤ b ∧ b ≤ 255


inductive Enc : List Int → List Int → Prop
  | nil : Enc [] []
  | run {n : Nat} {b : Int} {s t : List Int} : 3 ≤ n → n ≤ 130 → Enc s t → Enc (List.replicate n b ++ s) (((n : Int) + 125) :: b :: t)
  | lit {l s t : List Int} : 1 ≤ l.length → l.length ≤ 128 → Enc s t → Enc (l ++ s) (((l.length : Int) - 1) :: (l ++ t))
theorem Enc.ok {s t : List Int} (h : Enc s t) : (∀ b ∈ s, byt b) → ∀ b ∈ t, byt b := by
  induction h with
  | nil => exact fun h => h
  | run h1 h2 _ ih =>
    intro hb x hx
    rcases List.mem_cons.mp hx with rfl | hx
    · unfold byt; omega
    · rcases List.mem_cons.mp hx with rfl | hx
      · exact hb _ (List.mem_append_left _ (List.mem_replicate.mpr ⟨by omega, rfl⟩))
      · exact ih (fun b h => hb b (List.mem_append_right _ h)) x hx
  | lit h1 h2 _ ih =>
    intro hb x hx
    rcases List.mem_cons.mp hx with rfl | hx
    · unfold byt; omega
    · rcases List.mem_append.mp hx with hx | hx
      · exact hb _ (List.mem_append_left _ hx)
      · exact ih (fun b h => hb b (List.mem_append_right _ h)) x hx
end Rn
end
noncomputable section
namespace Pm
open PySem
end Pm
namespace Rn
open PySem Pm


def ab (i : Int) : Int := if i < 0 then -i else i
def pth (l a c : Int) : Int := if ab (l + a - c - l) ≤ ab (l + a - c - a) ∧ ab (l + a - c - l) ≤ ab (l + a - c - c) then l else if ab (l + a - c - a) ≤ ab (l + a - c - c) then a else c
def gs (way l a c : Int) : Int := if way = 4 then pth l a c else if way = 0 then 0 else if way = 1 then l else if way = 2 then a else (l + a) / 2

def l4 (L : List Int) (k : Nat) : Int := if 4 ≤ k then bt L (k - 4) else 0

end Rn
end
noncomputable section
namespace Rn
open PySem Pm



def colsC (ps : List C4) : List C4 := (sortC (countC ps)).map (·.1)
theorem cols_nodup (ps : List C4) : (colsC ps).Nodup := by
  unfold colsC
  have h : ((sortC (countC ps)).map (·.1)).Perm ((countC ps).map (·.1)) := List.Perm.map _ (List.mergeSort_perm _ _)
  exact h.nodup_iff.mpr (count_nodup ps)
theorem cols_mem {ps : List C4} {p : C4} (h : p ∈ ps) : p ∈ colsC ps := sort_fst h
theorem cols_sub {ps : List C4} {p : C4} (h : p ∈ colsC ps) : p ∈ ps := by
  obtain ⟨e, he, rfl⟩ := List.mem_map.mp h
  exact count_mem.mp (List.mem_map.mpr ⟨e, sort_mem.mp he, rfl⟩)
theorem cols_len (ps : List C4) : (colsC ps).length ≤ ps.length := by unfold colsC; rw [List.length_map]; exact sort_len ps
end Rn
end
noncomputable section
namespace Rn
open PySem Pm

theorem deq_nts (a b : List Int) : deq (.tup (nts a)) (.tup (nts b)) = decide (a = b) := by
  show deqs (nts a) (nts b) = _
  induction a generalizing b with
  | nil => cases b <;> rfl
  | cons x a ih =>
    cases b with
    | nil => rfl
    | cons y b =>
      show (deq (.int x) (.int y) && deqs (nts a) (nts b)) = _
      rw [ih b]
      have : deq (.int x) (.int y) = (x == y) := by unfold deq; rfl
      rw [this]
      by_cases h : x = y <;> by_cases h2 : a = b <;> simp [h, h2]
end Rn
end
noncomputable section
namespace Rn
open PySem Pm

def quad (p : C4) : List Int := [p.1, p.2.1, p.2.2.1, p.2.2.2]
theorem nts_quad (p : C4) : D.tup (nts (quad p)) = col p := rfl

end Rn
end
noncomputable section
namespace Rn
open PySem Pm

end Rn
end
noncomputable section
namespace Rn
open PySem Pm

theorem lex_one (a b : Int) (l m : List (Int ⊕ List Nat)) : PyProof.Rows.lexLt PyProof.Rows.itemOrd (.inl a :: l) (.inl b :: m) = (decide (a < b) || (decide (a = b) && PyProof.Rows.lexLt PyProof.Rows.itemOrd l m)) := by
  show (decide (a < b) || (!decide (b < a) && PyProof.Rows.lexLt PyProof.Rows.itemOrd l m)) = _
  rcases Int.lt_trichotomy a b with h | h | h
  · simp [h]
  · subst h; simp
  · have n1 : ¬ a < b := by omega
    have n2 : a ≠ b := by omega
    simp [h, n1, n2]
theorem srt_ltL (p q : C4) : srtD (col p) (col q) = !ltL (quad q) (quad p) := by
  rw [srt_def, tok_col, tok_col]
  unfold tokC quad
  have e : PyProof.Rows.lexLt PyProof.Rows.itemOrd [.inl 0] [.inl 0] = false := by rw [lex_one]; rfl
  rw [lex_one, lex_one, lex_one, lex_one, lex_one, lex_one, lex_one, lex_one, e]
  simp [ltL]
theorem srt_trans {a b c : CN} (h1 : srtD (col a.1) (col b.1) = true) (h2 : srtD (col b.1) (col c.1) = true) : srtD (col a.1) (col c.1) = true := by
  rw [srt_ltL] at *
  simp only [Bool.not_eq_true'] at *
  cases q : ltL (quad c.1) (quad a.1) with
  | false => rfl
  | true =>
    rcases ltL_tri (a := quad b.1) (b := quad a.1) rfl with z | z | z
    · rw [h1] at z; cases z
    · rw [← z] at q; rw [h2] at q; cases q
    · have := ltL_trans q z
      rw [h2] at this
      cases this
theorem srt_total (a b : CN) : (srtD (col a.1) (col b.1) || srtD (col b.1) (col a.1)) = true := by
  rw [srt_ltL, srt_ltL]
  cases q : ltL (quad b.1) (quad a.1) with
  | false => rfl
  | true =>
    cases q2 : ltL (quad a.1) (quad b.1) with
    | false => rfl
    | true =>
      have := ltL_trans q q2
      rw [ltL_irr] at this
      cases this
theorem quad_inj {p q : C4} (h : quad p = quad q) : p = q := by
  unfold quad at h
  simp only [List.cons.injEq, and_true] at h
  obtain ⟨a, b, c, d⟩ := h
  exact Prod.ext a (Prod.ext b (Prod.ext c d))
theorem cols_inc (ps : List C4) : Inc ((colsC ps).map quad) := by
  have h1 : (sortC (countC ps)).Pairwise fun a b => srtD (col a.1) (col b.1) = true := List.pairwise_mergeSort (le := fun a b : CN => srtD (col a.1) (col b.1)) (fun a b c h1 h2 => srt_trans h1 h2) (fun a b => srt_total a b) _
  have h2 : (sortC (countC ps)).Pairwise fun a b => a.1 ≠ b.1 := List.pairwise_map.mp (cols_nodup ps)
  unfold colsC
  rw [List.map_map]
  refine List.pairwise_map.mpr ((h1.and h2).imp fun {a b} ⟨c1, c2⟩ => ?_)
  rw [srt_ltL] at c1
  simp only [Bool.not_eq_true'] at c1
  rcases ltL_tri (a := quad a.1) (b := quad b.1) rfl with z | z | z
  · exact z
  · exact absurd (quad_inj z) c2
  · rw [c1] at z; cases z
theorem srtU_quad (ps : List C4) : srtU (ps.map quad) = (colsC ps).map quad := by
  refine inc_uniq (srt_inc (n := 4) fun y hy => ?_) (cols_inc ps) fun z => ?_
  · obtain ⟨p, _, rfl⟩ := List.mem_map.mp hy
    rfl
  · rw [srt_mem]
    constructor
    · intro hz
      obtain ⟨p, hp, rfl⟩ := List.mem_map.mp hz
      exact List.mem_map.mpr ⟨p, cols_mem hp, rfl⟩
    · intro hz
      obtain ⟨p, hp, rfl⟩ := List.mem_map.mp hz
      exact List.mem_map.mpr ⟨p, cols_sub hp, rfl⟩
theorem tup_quad (ps : List C4) : (ps.map quad).map tupL = ps.map col := by rw [List.map_map]; rfl
theorem okSet_quad {ps : List C4} (h0 : ps ≠ []) (hl : ps.length < 64) (hc : ∀ p ∈ ps, okc p) : okSet ((ps.map quad).headD [0]).length (ps.map quad) = true := by
  have h4 : ((ps.map quad).headD [0]).length = 4 := by
    cases ps with
    | nil => exact absurd rfl h0
    | cons p ps => rfl
  rw [h4]
  unfold okSet
  simp only [Bool.and_eq_true, decide_eq_true_eq, List.all_eq_true]
  refine ⟨⟨by omega, by rw [List.length_map]; exact hl⟩, fun k hk => ?_⟩
  obtain ⟨p, hp, rfl⟩ := List.mem_map.mp hk
  obtain ⟨a1, a2, a3, a4⟩ := hc p hp
  refine ⟨rfl, fun m hm => ?_⟩
  unfold quad at hm
  simp only [List.mem_cons, List.not_mem_nil, or_false] at hm
  rcases hm with rfl | rfl | rfl | rfl <;> omega
theorem ss_go' {ps : List C4} (h0 : ps ≠ []) (hl : ps.length < 64) (hc : ∀ p ∈ ps, okc p) : ((intsTs (ps.map col)).bind fun ks => if okSet (ks.headD [0]).length ks = true then some (D.lst ((srtU ks).map tupL)) else none) = some (.lst ((colsC ps).map col)) := by
  rw [← tup_quad, intsTs_map, Option.bind_some, if_pos (okSet_quad h0 hl hc), srtU_quad, tup_quad]
theorem ss_tup {ps : List C4} (h0 : ps ≠ []) (hl : ps.length < 64) (hc : ∀ p ∈ ps, okc p) : fCB ssF (fCons (M.pure (.tup (ps.map col))) fNil) = M.pure (.lst ((colsC ps).map col)) := by
  show M.opt (ssF [.tup (ps.map col)]) = _
  unfold ssF
  dsimp only
  rw [ss_go' h0 hl hc, opt_some]
end Rn
end
noncomputable section
namespace Rp
open PySem Pm Rn

def exp (B : List CN) : List C4 := B.flatMap fun e => List.replicate e.2 e.1
theorem exp_nil : exp [] = [] := rfl
theorem exp_cons (e : CN) (B : List CN) : exp (e :: B) = List.replicate e.2 e.1 ++ exp B := rfl
theorem exp_append (A B : List CN) : exp (A ++ B) = exp A ++ exp B := List.flatMap_append
theorem exp_filter (q : C4 → Bool) : ∀ B : List CN, (exp B).filter q = exp (B.filter fun e => q e.1)
  | [] => rfl
  | e :: B => by
    rw [exp_cons, List.filter_append, exp_filter q B, List.filter_replicate, List.filter_cons]
    by_cases h : q e.1 = true
    · rw [if_pos h, if_pos h, exp_cons]
    · rw [if_neg h, if_neg h]; rfl
theorem exp_perm {A B : List CN} (h : A.Perm B) : (exp A).Perm (exp B) := h.flatMap_right _
theorem exp_mem {c : C4} : ∀ {B : List CN}, (∀ e ∈ B, 0 < e.2) → (c ∈ exp B ↔ c ∈ B.map (·.1))
  | [], _ => by simp [exp]
  | e :: B, h => by
    have h0 := h e List.mem_cons_self
    rw [exp_cons, List.mem_append, List.map_cons, List.mem_cons, exp_mem fun x hx => h x (List.mem_cons_of_mem _ hx), List.mem_replicate]
    constructor
    · rintro (⟨_, h⟩ | h)
      · exact .inl h
      · exact .inr h
    · rintro (h | h)
      · exact .inl ⟨by omega, h⟩
      · exact .inr h
theorem sum_rep (n : Nat) (x : Int) : (List.replicate n x).sum = n * x := by
  induction n with
  | zero => simp
  | succ n ih => rw [List.replicate_succ, List.sum_cons, ih, Int.natCast_succ, Int.add_mul]; omega
theorem exp_sum (f : C4 → Int) : ∀ {B : List CN}, (∀ e ∈ B, 0 < e.2) → ((exp B).map f).sum = (B.map fun e => f e.1 * (e.2 : Int)).sum
  | [], _ => rfl
  | e :: B, h => by
    have h0 := h e List.mem_cons_self
    rw [exp_cons, List.map_append, List.map_replicate, List.sum_append, sum_rep, exp_sum f fun x hx => h x (List.mem_cons_of_mem _ hx), List.map_cons, List.sum_cons, Int.mul_comm]
theorem exp_len : ∀ B : List CN, (exp B).length = (B.map (·.2)).sum
  | [] => rfl
  | e :: B => by rw [exp_cons, List.length_append, List.length_replicate, List.map_cons, List.sum_cons, exp_len B]
theorem perm_sum {l m : List Int} (h : l.Perm m) : l.sum = m.sum := by
  induction h with
  | nil => rfl
  | cons x _ ih => rw [List.sum_cons, List.sum_cons, ih]
  | swap x y l => simp only [List.sum_cons]; omega
  | trans _ _ h1 h2 => exact h1.trans h2
structure Rel (B : List CN) (L : List C4) : Prop where
  nd : (B.map (·.1)).Nodup
  pos : ∀ e ∈ B, 0 < e.2
  ne : B ≠ []
  perm : L.Perm (exp B)
theorem Rel.mem {B : List CN} {L : List C4} (h : Rel B L) {c : C4} : c ∈ L ↔ c ∈ B.map (·.1) := by rw [h.perm.mem_iff, exp_mem h.pos]
theorem Rel.nel {B : List CN} {L : List C4} (h : Rel B L) : L ≠ [] := fun z => by
  have hB := h.ne
  cases B with
  | nil => exact hB rfl
  | cons e B =>
    have := (h.mem (c := e.1)).mpr List.mem_cons_self
    rw [z] at this
    cases this
theorem Rel.sum {B : List CN} {L : List C4} (h : Rel B L) (f : C4 → Int) : (L.map f).sum = (B.map fun e => f e.1 * (e.2 : Int)).sum := by
  rw [← exp_sum f h.pos]
  exact perm_sum (h.perm.map f)
theorem Rel.len {B : List CN} {L : List C4} (h : Rel B L) : L.length = (B.map (·.2)).sum := by rw [h.perm.length_eq, exp_len]
theorem exp_inc (p : C4) : ∀ {cs : List CN}, (cs.map (·.1)).Nodup → (∀ e ∈ cs, 0 < e.2) → p ∈ cs.map (·.1) → (exp (cs.map fun e => if e.1 = p then (e.1, e.2 + 1) else e)).Perm (exp cs ++ [p])
  | [], _, _, h => by cases h
  | e :: cs, nd, hp, h => by
    rw [List.map_cons, List.nodup_cons] at nd
    have h0 := hp e List.mem_cons_self
    rw [List.map_cons, exp_cons, exp_cons]
    by_cases z : e.1 = p
    · rw [if_pos z]
      have e1 : (cs.map fun e => if e.1 = p then (e.1, e.2 + 1) else e) = cs := by
        refine (List.map_congr_left fun x hx => ?_).trans (List.map_id _)
        rw [if_neg (fun y => nd.1 (by rw [z, ← y]; exact List.mem_map.mpr ⟨x, hx, rfl⟩))]
        rfl
      rw [e1]
      show (List.replicate (e.2 + 1) e.1 ++ exp cs).Perm _
      rw [List.replicate_succ, z]
      exact (List.perm_append_singleton p (List.replicate e.2 p ++ exp cs)).symm
    · rw [if_neg z]
      have hm : p ∈ cs.map (·.1) := by
        rcases List.mem_cons.mp h with y | y
        · exact absurd y.symm z
        · exact y
      have ih := exp_inc p nd.2 (fun x hx => hp x (List.mem_cons_of_mem _ hx)) hm
      rw [List.append_assoc]
      exact ih.append_left _
theorem add_pos {cs : List CN} (p : C4) (hp : ∀ e ∈ cs, 0 < e.2) : ∀ e ∈ addC cs p, 0 < e.2 := by
  intro e he
  unfold addC at he
  split at he
  · obtain ⟨x, hx, rfl⟩ := List.mem_map.mp he
    have := hp x hx
    split
    · show 0 < x.2 + 1; omega
    · exact this
  · rcases List.mem_append.mp he with h | h
    · exact hp e h
    · rw [List.mem_singleton.mp h]; exact Nat.one_pos
theorem add_exp {cs : List CN} (p : C4) (nd : (cs.map (·.1)).Nodup) (hp : ∀ e ∈ cs, 0 < e.2) : (exp (addC cs p)).Perm (exp cs ++ [p]) := by
  unfold addC
  split
  · rename_i h
    exact exp_inc p nd hp h
  · rw [exp_append]
    exact List.Perm.refl _
theorem fold_exp : ∀ (ps : List C4) (cs : List CN), (cs.map (·.1)).Nodup → (∀ e ∈ cs, 0 < e.2) → (exp (ps.foldl addC cs)).Perm (exp cs ++ ps) ∧ ∀ e ∈ ps.foldl addC cs, 0 < e.2
  | [], cs, _, hp => ⟨by rw [List.append_nil]; exact List.Perm.refl _, hp⟩
  | p :: ps, cs, nd, hp => by
    obtain ⟨h1, h2⟩ := fold_exp ps (addC cs p) (add_nodup nd) (add_pos p hp)
    refine ⟨h1.trans ?_, h2⟩
    have := (add_exp p nd hp).append_right ps
    rw [List.append_assoc] at this
    exact this
theorem rel_count {ps : List C4} (h : ps ≠ []) : Rel (countC ps) ps := by
  obtain ⟨h1, h2⟩ := fold_exp ps [] (by simp) (by simp)
  refine ⟨count_nodup ps, h2, fun z => ?_, h1.symm⟩
  cases ps with
  | nil => exact h rfl
  | cons p ps =>
    have := (count_mem (ps := p :: ps) (q := p)).mpr List.mem_cons_self
    rw [z] at this
    cases this
theorem Rel.of_perm {B B' : List CN} {L L' : List C4} (h : Rel B L) (hB : B'.Perm B) (hL : L'.Perm L) : Rel B' L' :=
  ⟨((hB.map (·.1)).nodup_iff).mpr h.nd, fun e he => h.pos e (hB.mem_iff.mp he), fun z => h.ne (by rw [z] at hB; exact hB.symm.eq_nil), hL.trans (h.perm.trans (exp_perm hB.symm))⟩
theorem Rel.part {B : List CN} {L : List C4} (h : Rel B L) (q : C4 → Bool) (hne : (B.filter fun e => q e.1) ≠ []) : Rel (B.filter fun e => q e.1) (L.filter q) := by
  refine ⟨?_, fun e he => h.pos e (List.mem_filter.mp he).1, hne, ?_⟩
  · exact (List.filter_sublist.map _).nodup h.nd
  · rw [← exp_filter]
    exact h.perm.filter q
end Rp
end
noncomputable section
namespace Pm
open PySem
def l0_spreads (box_ : D) (at_ : D) (found_ : D) (k0_ : D → M D) : M D :=
  (M.bind (fLC (fItems (M.pure box_)) fun it1_ => (fU2 it1_ fun colour_ many_ => (fBin ixD (M.pure colour_) (M.pure at_)))) fun parts_ =>
  (M.bind (fApp found_ (fBin subD (fCB maxF (fCons (M.pure parts_) fNil)) (fCB minF (fCons (M.pure parts_) fNil)))) fun found_ =>
  (k0_ found_)))
def p_spreads (box_ : D) : M D :=
  (M.bind (fLst fNil) fun found_ =>
  (M.bind (fRng (fCons (M.pure (D.int 4)) fNil)) fun xs2_ => fFor (l0_spreads box_) xs2_ found_ fun found_ =>
  (M.pure found_)))
def m_spreads : Mf := fun ds => match ds with
  | [box_] => p_spreads box_
  | _ => M.bad
def l0_cut_box (rows_ : D) (total_ : D) (st_ : D × D) (k0_ : D × D → M D) : M D :=
  ((fun seen_ many_ => (M.bind (fBin iaddD (M.pure seen_) (fBin ixD (fBin ixD (M.pure rows_) (M.pure many_)) (M.pure (D.int 1)))) fun seen_ =>
  (M.bind (fBin iaddD (M.pure many_) (M.pure (D.int 1))) fun many_ =>
  (k0_ (seen_, many_))))) st_.1 st_.2)
def c0_cut_box (rows_ : D) (total_ : D) (st_ : D × D) : M Bool :=
  ((fun seen_ many_ => (fAndB (fOf (fBin ltD (fBin mulD (M.pure (D.int 2)) (M.pure seen_)) (M.pure total_))) (fOf (fBin ltD (M.pure many_) (fBin subD (fCB lenF (fCons (M.pure rows_) fNil)) (M.pure (D.int 1))))))) st_.1 st_.2)
def p_cut_box (box_ : D) : M D :=
  (M.bind (fCall m_spreads (fCons (M.pure box_) fNil)) fun told_ =>
  (M.bind (fIdx (M.pure told_) (fCB maxF (fCons (M.pure told_) fNil))) fun part_ =>
  (M.bind (fSortL (M.pure box_) (M.pure part_)) fun rows_ =>
  (M.bind (fCB sumF (fCons (fLC (fItems (M.pure box_)) fun it1_ => (fU2 it1_ fun colour_ count_ => (M.pure count_))) fNil)) fun total_ => (M.bind (M.pure (D.int 0)) fun seen_ => (M.bind (M.pure (D.int 0)) fun many_ => 
  (fWhile (c0_cut_box rows_ total_) (l0_cut_box rows_ total_) wF (seen_, many_) fun st_ =>
  ((fun seen_ many_ => (fLst (fCons (fSl (M.pure rows_) fONo (fOSo (M.pure many_))) (fCons (fSl (M.pure rows_) (fOSo (M.pure many_)) fONo) fNil)))) st_.1 st_.2))))))))
def m_cut_box : Mf := fun ds => match ds with
  | [box_] => p_cut_box box_
  | _ => M.bad
def p_mean_of (box_ : D) : M D :=
  (M.bind (fCB sumF (fCons (fLC (fItems (M.pure box_)) fun it1_ => (fU2 it1_ fun colour_ many_ => (M.pure many_))) fNil)) fun total_ =>
  (fCB tupF (fCons (fLC (fRng (fCons (M.pure (D.int 4)) fNil)) fun at_ => (fCall m_rounded (fCons (fCB sumF (fCons (fLC (fItems (M.pure box_)) fun it2_ => (fU2 it2_ fun colour_ many_ => (fBin mulD (fBin ixD (M.pure colour_) (M.pure at_)) (M.pure many_)))) fNil)) (fCons (M.pure total_) fNil)))) fNil)))
def m_mean_of : Mf := fun ds => match ds with
  | [box_] => p_mean_of box_
  | _ => M.bad
def l0_palette_for (many_ : D) (boxes_ : D) (k0_ : D → M D) (kb0_ : D → M D) : M D :=
  (M.bind (fLC (fItems (M.pure boxes_)) fun box_ => (fCB maxF (fCons (fCall m_spreads (fCons (M.pure box_) fNil)) fNil))) fun told_ =>
  (M.bind (fIdx (M.pure told_) (fCB maxF (fCons (M.pure told_) fNil))) fun at_ =>
  (fIf (fOf (fBin eqD (fBin ixD (M.pure told_) (M.pure at_)) (M.pure (D.int 0))))
  (kb0_ boxes_)
  (M.bind (fBin addD (fBin addD (fSl (M.pure boxes_) fONo (fOSo (M.pure at_))) (fCall m_cut_box (fCons (fBin ixD (M.pure boxes_) (M.pure at_)) fNil))) (fSl (M.pure boxes_) (fOSo (fBin addD (M.pure at_) (M.pure (D.int 1)))) fONo)) fun boxes_ =>
  (k0_ boxes_)))))
def c0_palette_for (many_ : D) (boxes_ : D) : M Bool :=
  (fOf (fBin ltD (fCB lenF (fCons (M.pure boxes_) fNil)) (M.pure many_)))
def p_palette_for (picture_ : D) (many_ : D) : M D :=
  (M.bind (fLst (fCons (fCB lstF (fCons (fCall m_colours_of (fCons (M.pure picture_) fNil)) fNil)) fNil)) fun boxes_ =>
  (fWhileB (c0_palette_for many_) (l0_palette_for many_) wF boxes_ fun boxes_ =>
  (fCB tupF (fCons (fSsc (fItems (M.pure boxes_)) fun box_ => (fCall m_mean_of (fCons (M.pure box_) fNil))) fNil))))
def m_palette_for : Mf := fun ds => match ds with
  | [picture_, many_] => p_palette_for picture_ many_
  | _ => M.bad
end Pm
namespace Rp
open PySem Pm Rn

def prt (c : C4) (p : Nat) : Int := if p = 0 then c.1 else if p = 1 then c.2.1 else if p = 2 then c.2.2.1 else c.2.2.2
theorem ix_prt (c : C4) {p : Nat} (hp : p < 4) : ixD (col c) (.int p) = some (.int (prt c p)) := by
  match p, hp with
  | 0, _ => rfl
  | 1, _ => rfl
  | 2, _ => rfl
  | 3, _ => rfl
def mxL : List Int → Int
  | [] => 0
  | x :: r => r.foldl max x
def mnL : List Int → Int
  | [] => 0
  | x :: r => r.foldl min x
theorem max_spec : ∀ (l : List Int) (d : Int), l.foldl max d ∈ d :: l ∧ ∀ z ∈ d :: l, z ≤ l.foldl max d
  | [], d => ⟨by simp, by simp⟩
  | x :: l, d => by
    obtain ⟨h1, h2⟩ := max_spec l (max d x)
    rw [List.foldl_cons]
    refine ⟨?_, fun z hz => ?_⟩
    · rcases List.mem_cons.mp h1 with h | h
      · rw [h]
        rcases Int.le_total d x with q | q
        · rw [Int.max_eq_right q]; simp
        · rw [Int.max_eq_left q]; simp
      · exact List.mem_cons_of_mem _ (List.mem_cons_of_mem _ h)
    · have h0 := h2 (max d x) List.mem_cons_self
      rcases List.mem_cons.mp hz with rfl | hz
      · omega
      · rcases List.mem_cons.mp hz with rfl | hz
        · omega
        · exact h2 z (List.mem_cons_of_mem _ hz)
theorem mx_spec : ∀ {l : List Int}, l ≠ [] → mxL l ∈ l ∧ ∀ z ∈ l, z ≤ mxL l
  | [], h => absurd rfl h
  | x :: l, _ => max_spec l x
theorem mn_spec : ∀ {l : List Int}, l ≠ [] → mnL l ∈ l ∧ ∀ z ∈ l, mnL l ≤ z
  | [], h => absurd rfl h
  | x :: l, _ => min_spec l x
theorem mx_eq {l l' : List Int} (h : l ≠ []) (e : ∀ z, z ∈ l ↔ z ∈ l') : mxL l = mxL l' := by
  have h' : l' ≠ [] := fun z => by
    have := (e _).mp (mx_spec h).1
    rw [z] at this
    cases this
  exact Int.le_antisymm ((mx_spec h').2 _ ((e _).mp (mx_spec h).1)) ((mx_spec h).2 _ ((e _).mpr (mx_spec h').1))
theorem mn_eq {l l' : List Int} (h : l ≠ []) (e : ∀ z, z ∈ l ↔ z ∈ l') : mnL l = mnL l' := by
  have h' : l' ≠ [] := fun z => by
    have := (e _).mp (mn_spec h).1
    rw [z] at this
    cases this
  exact Int.le_antisymm ((mn_spec h).2 _ ((e _).mpr (mn_spec h').1)) ((mn_spec h').2 _ ((e _).mp (mn_spec h).1))
theorem max_go {l : List Int} (h : l ≠ []) : fCB maxF (fCons (M.pure (.lst (l.map D.int))) fNil) = M.pure (.int (mxL l)) := by
  show M.opt ((intsOf (l.map D.int)).bind _) = _
  rw [intsOf_map]
  cases l with
  | nil => exact absurd rfl h
  | cons x l => rfl
theorem min_go {l : List Int} (h : l ≠ []) : fCB minF (fCons (M.pure (.lst (l.map D.int))) fNil) = M.pure (.int (mnL l)) := by
  show M.opt ((intsOf (l.map D.int)).bind _) = _
  rw [intsOf_map]
  cases l with
  | nil => exact absurd rfl h
  | cons x l => rfl
def spr (cs : List C4) (p : Nat) : Int := mxL (cs.map fun c => prt c p) - mnL (cs.map fun c => prt c p)
def sprs (cs : List C4) : List Int := (List.range 4).map (spr cs)
theorem spr_eq {B : List CN} {L : List C4} (h : Rel B L) (p : Nat) : spr L p = spr (B.map (·.1)) p := by
  have hL : L.map (fun c => prt c p) ≠ [] := fun z => h.nel (List.map_eq_nil_iff.mp z)
  have e : ∀ z, z ∈ L.map (fun c => prt c p) ↔ z ∈ (B.map (·.1)).map (fun c => prt c p) := fun z => by
    rw [List.mem_map, List.mem_map]
    constructor
    · rintro ⟨c, hc, rfl⟩; exact ⟨c, h.mem.mp hc, rfl⟩
    · rintro ⟨c, hc, rfl⟩; exact ⟨c, h.mem.mpr hc, rfl⟩
  unfold spr
  rw [mx_eq hL e, mn_eq hL e]
theorem sprs_eq {B : List CN} {L : List C4} (h : Rel B L) : sprs L = sprs (B.map (·.1)) := List.map_congr_left fun p _ => spr_eq h p
theorem spread_turn {B : List CN} (hB : B ≠ []) {p : Nat} (hp : p < 4) (acc : List D) (ha : acc.length < 100000) (k : D → M D) : l0_spreads (.lst (B.map itC)) (.int p) (.lst acc) k = k (.lst (acc ++ [.int (spr (B.map (·.1)) p)])) := by
  have hne : B.map (fun e => prt e.1 p) ≠ [] := fun z => hB (List.map_eq_nil_iff.mp z)
  have e1 : (fLC (fItems (M.pure (.lst (B.map itC)))) fun it1_ => (fU2 it1_ fun colour_ many_ => (fBin ixD (M.pure colour_) (M.pure (.int p))))) = M.pure (.lst ((B.map fun e => prt e.1 p).map D.int)) := by
    rw [f_items, i_lst, opt_some, f_lc, map_of (g := fun e : CN => .int (prt e.1 p)) (fun e _ => by
      show fBin ixD (M.pure (col e.1)) (M.pure (.int p)) = _
      rw [f_bin, ix_prt e.1 hp, opt_some]), Pm.pure_bind, List.map_map]
    rfl
  unfold l0_spreads
  rw [e1, Pm.pure_bind, max_go hne, min_go hne, f_bin, o_sub, opt_some]
  show (fApp (.lst acc) (M.pure (.int (mxL _ - mnL _)))).bind k = _
  have e2 : spr (B.map (·.1)) p = mxL (B.map fun e => prt e.1 p) - mnL (B.map fun e => prt e.1 p) := by
    unfold spr; rw [List.map_map]; rfl
  rw [e2]
  simp (config := { maxSteps := 3000000 }) (disch := first | omega | (simp only [List.length_map, List.length_cons, List.length_nil, List.length_append, List.length_replicate, List.length_set, List.length_range, nts_len, List.length_take, List.length_drop]; omega) | kernel_rfl) only [in_int, ng_int, mx_nil, mx_cons, o_ne_self, o_eq_self, ls_lst, Pm.pure_bind, bad_bind, raise_bind, opt_some, opt_none, Pm.bind_assoc, Pm.bind_pure, f_bin, f_nil, f_cons, f_tup, f_lst, f_call, f_cb, f_if, f_of, f_ofv, f_tru, f_andB, f_orB, f_notB, f_and, f_or, f_not, f_neg, f_chain, f_sl, f_ono, f_oso, f_items, f_zip, f_enum, f_rng, f_lc, f_lcf, f_lc2, f_in, f_lz, f_app, f_ext, f_seti, f_isi, f_u2, f_u3, f_u4, i_tup, i_lst, z_tup, z_lst, zl_nil, zl_cons, en_tup, en_lst, en_nil, en_cons, x_nil, x_cons, x_map, x_pure, xf_nil, xf_cons, xc_nil, xc_cons, noEx_pure, o_add, o_sub, o_lt, o_le, o_gt, o_ge, o_eq, o_ne, o_mulL, o_mulR, o_div, o_mod, o_addT, o_addL, o_iadd, Pm.ix_tup, ix_lst, Pm.sl_tup, sl_lst, b_len_t, b_len_l, b_abs, b_int_i, b_int_b, b_sum, b_all, b_any, b_tup_l, b_tup_t, b_lst_l, b_lst_t, b_max2, b_max3, b_min2, b_min3, t_bl, t_int, t_tup, t_lst, t_non, a_app, a_ext, bl_bl, decide_true, decide_false, Bool.not_true, Bool.not_false, if_true, if_false, Bool.false_eq_true, for_nil, for_cons, ls_cons, ls_nil, at0, at1, at2, at3, at4, List.cons_append, List.nil_append, List.length_cons, List.length_nil, List.length_map, n_ot, isi_int', isi_bool', isi_tup', isi_str', dn_non, dn_int, dn_tup, dn_str, dn_bl, dnn_non, dnn_int, dnn_tup, dnn_str, dnn_bl, decide_eq_true_eq, fBin, fCons, fTup, fLst, fCall, fCB, fIf, fOf, fTru, fAndB, fOrB, fNotB, fAnd, fOr, fNot, fNeg, fChain, fSl, fOSo, fItems, fZip, fEnum, fRng, fLC, fLCf, fLC2, fIn, fLz, fApp, fExt, fSetI, fIsi]
theorem spreads_eq {B : List CN} (hB : B ≠ []) : m_spreads [.lst (B.map itC)] = M.pure (.lst ((sprs (B.map (·.1))).map D.int)) := by
  have rg : fRng (fCons (M.pure (D.int 4)) fNil) = M.pure [.int ((0 : Nat) : Int), .int ((1 : Nat) : Int), .int ((2 : Nat) : Int), .int ((3 : Nat) : Int)] := by kernel_rfl
  show p_spreads _ = _
  unfold p_spreads
  rw [show fLst fNil = M.pure (D.lst []) from rfl, Pm.pure_bind, rg, Pm.pure_bind, for_cons, spread_turn hB (by decide) _ (by decide), for_cons, spread_turn hB (by decide) _ (by simp), for_cons, spread_turn hB (by decide) _ (by simp), for_cons, spread_turn hB (by decide) _ (by simp), for_nil]
  rfl
end Rp
end
noncomputable section
namespace Rp
open PySem Pm Rn

def leC (p : Nat) (a b : C4) : Bool := PySem.W.dataLe false (kKey (p : Int)) (a, 0) (b, 0)
def kq (p : Nat) (c : C4) : List Int := [kAt c (p : Int), c.1, c.2.1, c.2.2.1, c.2.2.2]
theorem tok_key (p : Nat) (c : C4) : PySem.W.keyToks (kKey (p : Int) (c, 0)) = .inl 1 :: .inl (kAt c (p : Int)) :: .inl 1 :: (tokC c ++ [.inl 0]) := rfl
theorem le_ltL (p : Nat) (a b : C4) : leC p a b = !ltL (kq p b) (kq p a) := by
  show (!PyProof.Rows.lexLt PyProof.Rows.itemOrd (PySem.W.keyToks (kKey (p : Int) (b, 0))) (PySem.W.keyToks (kKey (p : Int) (a, 0)))) = _
  rw [tok_key, tok_key]
  unfold tokC kq
  have e : PyProof.Rows.lexLt PyProof.Rows.itemOrd [.inl 0, .inl 0] [.inl 0, .inl 0] = false := by rw [lex_one, lex_one]; rfl
  simp only [List.cons_append, List.nil_append]
  rw [lex_one, lex_one, lex_one, lex_one, lex_one, lex_one, lex_one, lex_one, lex_one, lex_one, lex_one, e]
  simp [ltL]
theorem kq_inj {p : Nat} {a b : C4} (h : kq p a = kq p b) : a = b := by
  unfold kq at h
  simp only [List.cons.injEq, and_true] at h
  obtain ⟨_, a, b, c, d⟩ := h
  exact Prod.ext a (Prod.ext b (Prod.ext c d))
theorem le_trans' {p : Nat} {a b c : C4} (h1 : leC p a b = true) (h2 : leC p b c = true) : leC p a c = true := by
  rw [le_ltL] at *
  simp only [Bool.not_eq_true'] at *
  cases q : ltL (kq p c) (kq p a) with
  | false => rfl
  | true =>
    rcases ltL_tri (a := kq p b) (b := kq p a) rfl with z | z | z
    · rw [h1] at z; cases z
    · rw [← z] at q; rw [h2] at q; cases q
    · have := ltL_trans q z
      rw [h2] at this
      cases this
theorem le_total (p : Nat) (a b : C4) : (leC p a b || leC p b a) = true := by
  rw [le_ltL, le_ltL]
  cases q : ltL (kq p b) (kq p a) with
  | false => rfl
  | true =>
    cases q2 : ltL (kq p a) (kq p b) with
    | false => rfl
    | true =>
      have := ltL_trans q q2
      rw [ltL_irr] at this
      cases this
theorem le_anti {p : Nat} {a b : C4} (h1 : leC p a b = true) (h2 : leC p b a = true) : a = b := by
  rw [le_ltL] at *
  simp only [Bool.not_eq_true'] at *
  rcases ltL_tri (a := kq p a) (b := kq p b) rfl with z | z | z
  · rw [h2] at z; cases z
  · exact kq_inj z
  · rw [h1] at z; cases z
def rowsC (p : Nat) (B : List CN) : List CN := B.mergeSort fun a b => leC p a.1 b.1
theorem rows_perm (p : Nat) (B : List CN) : (rowsC p B).Perm B := List.mergeSort_perm _ _
theorem rows_le (p : Nat) (B : List CN) : ((rowsC p B).map (·.1)).Pairwise fun a b => leC p a b = true :=
  List.pairwise_map.mpr (List.pairwise_mergeSort (le := fun a b : CN => leC p a.1 b.1) (fun a b c h1 h2 => le_trans' h1 h2) (fun a b => le_total p a.1 b.1) B)
theorem sortL_eq (p : Nat) (hp : p < 4) (B : List CN) : fSortL (M.pure (.lst (B.map itC))) (M.pure (.int p)) = M.pure (.lst ((rowsC p B).map itC)) := by
  show M.opt (sortL (.lst (B.map itC)) (.int p)) = _
  have e0 : B.map itC = (B.map fun e : CN => ((e.1, (e.2 : Int)) : Pr)).map kPairD := by rw [List.map_map]; rfl
  unfold sortL
  simp only []
  rw [if_pos (by omega), e0, kps_map, Option.map_some, opt_some]
  have q : (B.mergeSort fun a b => leC p a.1 b.1).map (fun e : CN => ((e.1, (e.2 : Int)) : Pr)) = (B.map fun e : CN => ((e.1, (e.2 : Int)) : Pr)).mergeSort (PySem.W.dataLe false (kKey (p : Int))) := List.map_mergeSort fun _ _ _ _ => rfl
  rw [← q, List.map_map]
  rfl

def cutM (T : Nat) : Nat → List CN → Nat
  | s, e :: e' :: r => if 2 * s < T then cutM T (s + e.2) (e' :: r) + 1 else 0
  | _, _ => 0
theorem cutM_lt (T : Nat) : ∀ (r : List CN) (s : Nat), r ≠ [] → cutM T s r < r.length
  | [], _, h => absurd rfl h
  | [e], s, _ => by simp [cutM]
  | e :: e' :: r, s, _ => by
    rw [cutM]
    split
    · have := cutM_lt T (e' :: r) (s + e.2) (by simp)
      simp only [List.length_cons] at *
      omega
    · simp
theorem cut_loop {rows : List CN} {T : Nat} (hl : rows.length ≤ 10000) (hs : (rows.map (·.2)).sum ≤ 1000000) (hT : T ≤ 1000000) (K : D × D → M D) : ∀ (rest pre : List CN) (s n : Nat), rows = pre ++ rest → s = (pre.map (·.2)).sum → rest ≠ [] → rest.length < n →
    ∃ s' : Int, fWhile (c0_cut_box (.lst (rows.map itC)) (.int T)) (l0_cut_box (.lst (rows.map itC)) (.int T)) n (.int s, .int pre.length) K = K (.int s', .int ((pre.length + cutM T s rest : Nat) : Int))
  | [], pre, s, n, _, _, h, _ => absurd rfl h
  | [e], pre, s, n + 1, hr, hsu, _, hn => by
    refine ⟨s, ?_⟩
    have hlen : rows.length = pre.length + 1 := by rw [hr]; simp
    have ec : c0_cut_box (.lst (rows.map itC)) (.int T) (.int s, .int pre.length) = M.pure false := by
      unfold c0_cut_box
      have e2 : decide ((pre.length : Int) < (rows.length : Int) - 1) = false := decide_eq_false (by omega)
      by_cases h : 2 * (s : Int) < T
      · simp (config := { maxSteps := 3000000 }) (disch := first | omega | (simp only [List.length_map, List.length_cons, List.length_nil, List.length_append, List.length_replicate, List.length_set, List.length_range, nts_len, List.length_take, List.length_drop]; omega) | kernel_rfl) only [in_int, ng_int, mx_nil, mx_cons, o_ne_self, o_eq_self, ls_lst, Pm.pure_bind, bad_bind, raise_bind, opt_some, opt_none, Pm.bind_assoc, Pm.bind_pure, f_bin, f_nil, f_cons, f_tup, f_lst, f_call, f_cb, f_if, f_of, f_ofv, f_tru, f_andB, f_orB, f_notB, f_and, f_or, f_not, f_neg, f_chain, f_sl, f_ono, f_oso, f_items, f_zip, f_enum, f_rng, f_lc, f_lcf, f_lc2, f_in, f_lz, f_app, f_ext, f_seti, f_isi, f_u2, f_u3, f_u4, i_tup, i_lst, z_tup, z_lst, zl_nil, zl_cons, en_tup, en_lst, en_nil, en_cons, x_nil, x_cons, x_map, x_pure, xf_nil, xf_cons, xc_nil, xc_cons, noEx_pure, o_add, o_sub, o_lt, o_le, o_gt, o_ge, o_eq, o_ne, o_mulL, o_mulR, o_div, o_mod, o_addT, o_addL, o_iadd, Pm.ix_tup, ix_lst, Pm.sl_tup, sl_lst, b_len_t, b_len_l, b_abs, b_int_i, b_int_b, b_sum, b_all, b_any, b_tup_l, b_tup_t, b_lst_l, b_lst_t, b_max2, b_max3, b_min2, b_min3, t_bl, t_int, t_tup, t_lst, t_non, a_app, a_ext, bl_bl, decide_true, decide_false, Bool.not_true, Bool.not_false, if_true, if_false, Bool.false_eq_true, for_nil, for_cons, ls_cons, ls_nil, at0, at1, at2, at3, at4, List.cons_append, List.nil_append, List.length_cons, List.length_nil, List.length_map, n_ot, isi_int', isi_bool', isi_tup', isi_str', dn_non, dn_int, dn_tup, dn_str, dn_bl, dnn_non, dnn_int, dnn_tup, dnn_str, dnn_bl, decide_eq_true_eq, fBin, fCons, fTup, fLst, fCall, fCB, fIf, fOf, fTru, fAndB, fOrB, fNotB, fAnd, fOr, fNot, fNeg, fChain, fSl, fOSo, fItems, fZip, fEnum, fRng, fLC, fLCf, fLC2, fIn, fLz, fApp, fExt, fSetI, fIsi, List.length_map, e2, decide_eq_true h]
      · simp (config := { maxSteps := 3000000 }) (disch := first | omega | (simp only [List.length_map, List.length_cons, List.length_nil, List.length_append, List.length_replicate, List.length_set, List.length_range, nts_len, List.length_take, List.length_drop]; omega) | kernel_rfl) only [in_int, ng_int, mx_nil, mx_cons, o_ne_self, o_eq_self, ls_lst, Pm.pure_bind, bad_bind, raise_bind, opt_some, opt_none, Pm.bind_assoc, Pm.bind_pure, f_bin, f_nil, f_cons, f_tup, f_lst, f_call, f_cb, f_if, f_of, f_ofv, f_tru, f_andB, f_orB, f_notB, f_and, f_or, f_not, f_neg, f_chain, f_sl, f_ono, f_oso, f_items, f_zip, f_enum, f_rng, f_lc, f_lcf, f_lc2, f_in, f_lz, f_app, f_ext, f_seti, f_isi, f_u2, f_u3, f_u4, i_tup, i_lst, z_tup, z_lst, zl_nil, zl_cons, en_tup, en_lst, en_nil, en_cons, x_nil, x_cons, x_map, x_pure, xf_nil, xf_cons, xc_nil, xc_cons, noEx_pure, o_add, o_sub, o_lt, o_le, o_gt, o_ge, o_eq, o_ne, o_mulL, o_mulR, o_div, o_mod, o_addT, o_addL, o_iadd, Pm.ix_tup, ix_lst, Pm.sl_tup, sl_lst, b_len_t, b_len_l, b_abs, b_int_i, b_int_b, b_sum, b_all, b_any, b_tup_l, b_tup_t, b_lst_l, b_lst_t, b_max2, b_max3, b_min2, b_min3, t_bl, t_int, t_tup, t_lst, t_non, a_app, a_ext, bl_bl, decide_true, decide_false, Bool.not_true, Bool.not_false, if_true, if_false, Bool.false_eq_true, for_nil, for_cons, ls_cons, ls_nil, at0, at1, at2, at3, at4, List.cons_append, List.nil_append, List.length_cons, List.length_nil, List.length_map, n_ot, isi_int', isi_bool', isi_tup', isi_str', dn_non, dn_int, dn_tup, dn_str, dn_bl, dnn_non, dnn_int, dnn_tup, dnn_str, dnn_bl, decide_eq_true_eq, fBin, fCons, fTup, fLst, fCall, fCB, fIf, fOf, fTru, fAndB, fOrB, fNotB, fAnd, fOr, fNot, fNeg, fChain, fSl, fOSo, fItems, fZip, fEnum, fRng, fLC, fLCf, fLC2, fIn, fLz, fApp, fExt, fSetI, fIsi, decide_eq_false h]
    rw [while_succ, ec, f_if, if_neg (by decide)]
    simp [cutM]
  | e :: e' :: r, pre, s, n + 1, hr, hsu, _, hn => by
    have hlen : rows.length = pre.length + (r.length + 2) := by rw [hr]; simp
    have hsum : (rows.map (·.2)).sum = s + (e.2 + (e'.2 + (r.map (·.2)).sum)) := by rw [hr, hsu]; simp
    by_cases h : 2 * s < T
    · have ec : c0_cut_box (.lst (rows.map itC)) (.int T) (.int s, .int pre.length) = M.pure true := by
        unfold c0_cut_box
        have e2 : decide ((pre.length : Int) < (rows.length : Int) - 1) = true := decide_eq_true (by omega)
        have e3 : decide (2 * (s : Int) < T) = true := decide_eq_true (by omega)
        simp (config := { maxSteps := 3000000 }) (disch := first | omega | (simp only [List.length_map, List.length_cons, List.length_nil, List.length_append, List.length_replicate, List.length_set, List.length_range, nts_len, List.length_take, List.length_drop]; omega) | kernel_rfl) only [in_int, ng_int, mx_nil, mx_cons, o_ne_self, o_eq_self, ls_lst, Pm.pure_bind, bad_bind, raise_bind, opt_some, opt_none, Pm.bind_assoc, Pm.bind_pure, f_bin, f_nil, f_cons, f_tup, f_lst, f_call, f_cb, f_if, f_of, f_ofv, f_tru, f_andB, f_orB, f_notB, f_and, f_or, f_not, f_neg, f_chain, f_sl, f_ono, f_oso, f_items, f_zip, f_enum, f_rng, f_lc, f_lcf, f_lc2, f_in, f_lz, f_app, f_ext, f_seti, f_isi, f_u2, f_u3, f_u4, i_tup, i_lst, z_tup, z_lst, zl_nil, zl_cons, en_tup, en_lst, en_nil, en_cons, x_nil, x_cons, x_map, x_pure, xf_nil, xf_cons, xc_nil, xc_cons, noEx_pure, o_add, o_sub, o_lt, o_le, o_gt, o_ge, o_eq, o_ne, o_mulL, o_mulR, o_div, o_mod, o_addT, o_addL, o_iadd, Pm.ix_tup, ix_lst, Pm.sl_tup, sl_lst, b_len_t, b_len_l, b_abs, b_int_i, b_int_b, b_sum, b_all, b_any, b_tup_l, b_tup_t, b_lst_l, b_lst_t, b_max2, b_max3, b_min2, b_min3, t_bl, t_int, t_tup, t_lst, t_non, a_app, a_ext, bl_bl, decide_true, decide_false, Bool.not_true, Bool.not_false, if_true, if_false, Bool.false_eq_true, for_nil, for_cons, ls_cons, ls_nil, at0, at1, at2, at3, at4, List.cons_append, List.nil_append, List.length_cons, List.length_nil, List.length_map, n_ot, isi_int', isi_bool', isi_tup', isi_str', dn_non, dn_int, dn_tup, dn_str, dn_bl, dnn_non, dnn_int, dnn_tup, dnn_str, dnn_bl, decide_eq_true_eq, fBin, fCons, fTup, fLst, fCall, fCB, fIf, fOf, fTru, fAndB, fOrB, fNotB, fAnd, fOr, fNot, fNeg, fChain, fSl, fOSo, fItems, fZip, fEnum, fRng, fLC, fLCf, fLC2, fIn, fLz, fApp, fExt, fSetI, fIsi, List.length_map, e2, e3]
      have hx : rows[pre.length]? = some e := by rw [hr, List.getElem?_append_right (Nat.le_refl _)]; simp
      have eb : ∀ k, l0_cut_box (.lst (rows.map itC)) (.int T) (.int s, .int pre.length) k = k (.int ((s + e.2 : Nat) : Int), .int ((pre.length + 1 : Nat) : Int)) := fun k => by
        have e4 : ixD (.lst (rows.map itC)) (.int pre.length) = some (itC e) := at_map rfl hx
        have e5 : fBin ixD (M.pure (itC e)) (M.pure (D.int 1)) = M.pure (.int e.2) := rfl
        unfold l0_cut_box
        simp only []
        rw [f_bin, e4, opt_some, e5]
        show ((M.opt (iaddD (.int s) (.int e.2))).bind fun seen_ => (M.opt (iaddD (.int pre.length) (.int 1))).bind fun many_ => k (seen_, many_)) = _
        rw [o_iadd, opt_some, Pm.pure_bind, o_iadd, opt_some, Pm.pure_bind, Int.natCast_add, Int.natCast_add]
        rfl
      obtain ⟨s', h'⟩ := cut_loop hl hs hT K (e' :: r) (pre ++ [e]) (s + e.2) n (by rw [hr]; simp) (by rw [hsu]; simp) (by simp) (by simp at hn ⊢; omega)
      refine ⟨s', ?_⟩
      rw [while_succ, ec, f_if, if_pos rfl, eb]
      rw [List.length_append] at h'
      rw [show cutM T s (e :: e' :: r) = cutM T (s + e.2) (e' :: r) + 1 from by rw [cutM, if_pos h], show pre.length + (cutM T (s + e.2) (e' :: r) + 1) = pre.length + [e].length + cutM T (s + e.2) (e' :: r) from by simp; omega]
      exact h'
    · refine ⟨s, ?_⟩
      have ec : c0_cut_box (.lst (rows.map itC)) (.int T) (.int s, .int pre.length) = M.pure false := by
        unfold c0_cut_box
        have e3 : decide (2 * (s : Int) < T) = false := decide_eq_false (by omega)
        simp (config := { maxSteps := 3000000 }) (disch := first | omega | (simp only [List.length_map, List.length_cons, List.length_nil, List.length_append, List.length_replicate, List.length_set, List.length_range, nts_len, List.length_take, List.length_drop]; omega) | kernel_rfl) only [in_int, ng_int, mx_nil, mx_cons, o_ne_self, o_eq_self, ls_lst, Pm.pure_bind, bad_bind, raise_bind, opt_some, opt_none, Pm.bind_assoc, Pm.bind_pure, f_bin, f_nil, f_cons, f_tup, f_lst, f_call, f_cb, f_if, f_of, f_ofv, f_tru, f_andB, f_orB, f_notB, f_and, f_or, f_not, f_neg, f_chain, f_sl, f_ono, f_oso, f_items, f_zip, f_enum, f_rng, f_lc, f_lcf, f_lc2, f_in, f_lz, f_app, f_ext, f_seti, f_isi, f_u2, f_u3, f_u4, i_tup, i_lst, z_tup, z_lst, zl_nil, zl_cons, en_tup, en_lst, en_nil, en_cons, x_nil, x_cons, x_map, x_pure, xf_nil, xf_cons, xc_nil, xc_cons, noEx_pure, o_add, o_sub, o_lt, o_le, o_gt, o_ge, o_eq, o_ne, o_mulL, o_mulR, o_div, o_mod, o_addT, o_addL, o_iadd, Pm.ix_tup, ix_lst, Pm.sl_tup, sl_lst, b_len_t, b_len_l, b_abs, b_int_i, b_int_b, b_sum, b_all, b_any, b_tup_l, b_tup_t, b_lst_l, b_lst_t, b_max2, b_max3, b_min2, b_min3, t_bl, t_int, t_tup, t_lst, t_non, a_app, a_ext, bl_bl, decide_true, decide_false, Bool.not_true, Bool.not_false, if_true, if_false, Bool.false_eq_true, for_nil, for_cons, ls_cons, ls_nil, at0, at1, at2, at3, at4, List.cons_append, List.nil_append, List.length_cons, List.length_nil, List.length_map, n_ot, isi_int', isi_bool', isi_tup', isi_str', dn_non, dn_int, dn_tup, dn_str, dn_bl, dnn_non, dnn_int, dnn_tup, dnn_str, dnn_bl, decide_eq_true_eq, fBin, fCons, fTup, fLst, fCall, fCB, fIf, fOf, fTru, fAndB, fOrB, fNotB, fAnd, fOr, fNot, fNeg, fChain, fSl, fOSo, fItems, fZip, fEnum, fRng, fLC, fLCf, fLC2, fIn, fLz, fApp, fExt, fSetI, fIsi, e3]
      rw [while_succ, ec, f_if, if_neg (by decide), show cutM T s (e :: e' :: r) = 0 from by rw [cutM, if_neg h]]
      rfl
end Rp
end
noncomputable section
namespace Rp
open PySem Pm Rn

def idxM (l : List Int) : Nat := l.findIdx fun z => z == mxL l
theorem idxM_spec {l : List Int} (h : l ≠ []) : idxM l < l.length ∧ l[idxM l]? = some (mxL l) := by
  have hm := (mx_spec h).1
  have h1 : idxM l < l.length := List.findIdx_lt_length_of_exists ⟨_, hm, by simp⟩
  refine ⟨h1, ?_⟩
  have h2 : (l[idxM l] == mxL l) = true := List.findIdx_getElem (p := fun z => z == mxL l) (xs := l) (w := h1)
  rw [List.getElem?_eq_getElem h1]
  exact congrArg some (beq_iff_eq.mp h2)
theorem idx_go {l : List Int} (h : l ≠ []) : fIdx (M.pure (.lst (l.map D.int))) (M.pure (.int (mxL l))) = M.pure (.int (idxM l)) := by
  show M.opt (idxL (l.map D.int) (.int (mxL l))) = _
  unfold idxL
  have hok : (l.map D.int).all (okd 39) = true := by
    rw [List.all_eq_true]
    intro d hd
    obtain ⟨i, _, rfl⟩ := List.mem_map.mp hd
    exact okd_int _ _
  have e : (fun z : D => deq z (.int (mxL l))) ∘ D.int = fun z : Int => z == mxL l := by
    funext z
    show deq (.int z) (.int (mxL l)) = _
    unfold deq; rfl
  rw [if_pos ⟨okd_int _ _, hok⟩, List.findIdx?_map, e]
  have h1 := (idxM_spec h).1
  rw [List.findIdx?_eq_some_iff_findIdx_eq.mpr ⟨h1, rfl⟩]
  rfl
theorem sprs_ne (cs : List C4) : sprs cs ≠ [] := by unfold sprs; simp
theorem sprs_len (cs : List C4) : (sprs cs).length = 4 := by unfold sprs; simp
def prtM (cs : List C4) : Nat := idxM (sprs cs)
theorem prtM_lt (cs : List C4) : prtM cs < 4 := by
  have := (idxM_spec (sprs_ne cs)).1
  rw [sprs_len] at this
  exact this
theorem sum_ints (l : List Int) : fCB sumF (fCons (M.pure (.lst (l.map D.int))) fNil) = M.pure (.int l.sum) := by
  show M.opt (sumF [.lst (l.map D.int)]) = _
  rw [b_sum, intsOf_map]
  rfl
theorem sum_cast : ∀ l : List Nat, (l.map fun n : Nat => (n : Int)).sum = ((l.sum : Nat) : Int)
  | [] => rfl
  | n :: l => by rw [List.map_cons, List.sum_cons, List.sum_cons, sum_cast l, Int.natCast_add]
theorem total_eq (B : List CN) : fCB sumF (fCons (fLC (fItems (M.pure (.lst (B.map itC)))) fun it1_ => (fU2 it1_ fun colour_ count_ => (M.pure count_))) fNil) = M.pure (.int ((B.map (·.2)).sum : Nat)) := by
  rw [f_items, i_lst, opt_some, f_lc, map_of (f := fun it1_ => (fU2 it1_ fun colour_ count_ => (M.pure count_))) (E := itC) (g := fun e : CN => .int (e.2 : Int)) (fun e _ => rfl), Pm.pure_bind]
  have e : B.map (fun e : CN => D.int (e.2 : Int)) = ((B.map (·.2)).map fun n : Nat => (n : Int)).map D.int := by rw [List.map_map, List.map_map]; rfl
  rw [e, sum_ints, sum_cast]
def cutAt (B : List CN) : Nat := cutM (B.map (·.2)).sum 0 (rowsC (prtM (B.map (·.1))) B)
theorem cut_eq {B : List CN} (hB : B ≠ []) (hl : B.length ≤ 10000) (hs : (B.map (·.2)).sum ≤ 1000000) :
    m_cut_box [.lst (B.map itC)] = M.pure (.lst [.lst (((rowsC (prtM (B.map (·.1))) B).take (cutAt B)).map itC), .lst (((rowsC (prtM (B.map (·.1))) B).drop (cutAt B)).map itC)]) := by
  have hp := prtM_lt (B.map (·.1))
  have hr := rows_perm (prtM (B.map (·.1))) B
  generalize hR : rowsC (prtM (B.map (·.1))) B = R at hr
  have hRl : R.length = B.length := hr.length_eq
  have hRn : R ≠ [] := fun z => by rw [z] at hRl; exact hB (List.length_eq_zero_iff.mp hRl.symm)
  have hRs : (R.map (·.2)).sum = (B.map (·.2)).sum := (hr.map (·.2)).sum_nat
  obtain ⟨n, hn⟩ : ∃ n, wF = n + 10001 := ⟨89999, wF_eq⟩
  have e1 : fCall m_spreads (fCons (M.pure (.lst (B.map itC))) fNil) = M.pure (.lst ((sprs (B.map (·.1))).map D.int)) := by rw [call1, spreads_eq hB]
  show p_cut_box _ = _
  unfold p_cut_box
  rw [e1, Pm.pure_bind, max_go (sprs_ne _), idx_go (sprs_ne _), Pm.pure_bind]
  show (fSortL (M.pure (.lst (B.map itC))) (M.pure (.int (prtM (B.map (·.1)) : Nat)))).bind _ = _
  rw [sortL_eq _ hp, hR, Pm.pure_bind, total_eq, Pm.pure_bind, Pm.pure_bind, Pm.pure_bind, hn]
  obtain ⟨s', h⟩ := cut_loop (rows := R) (T := (B.map (·.2)).sum) (by omega) (by omega) hs (fun st_ => ((fun seen_ many_ => (fLst (fCons (fSl (M.pure (.lst (R.map itC))) fONo (fOSo (M.pure many_))) (fCons (fSl (M.pure (.lst (R.map itC))) (fOSo (M.pure many_)) fONo) fNil)))) st_.1 st_.2)) R [] 0 (n + 10001) rfl rfl hRn (by omega)
  refine h.trans ?_
  have hc : cutM (B.map (·.2)).sum 0 R = cutAt B := by unfold cutAt; rw [hR]
  rw [hc, List.length_nil, Nat.zero_add]
  have hlt : cutAt B < R.length := by rw [← hc]; exact cutM_lt _ _ _ hRn
  have s1 : fSl (M.pure (.lst (R.map itC))) fONo (fOSo (M.pure (.int (cutAt B : Nat)))) = M.pure (.lst ((R.take (cutAt B)).map itC)) := by
    show M.pure (D.lst (cutL (R.map itC) none (some ((cutAt B : Nat) : Int)))) = _
    unfold cutL
    rw [HT.sIx_none, HT.sIx_nat, List.drop_zero, Nat.sub_zero, List.length_map, Nat.min_eq_left (by omega), List.map_take]
  have s2 : fSl (M.pure (.lst (R.map itC))) (fOSo (M.pure (.int (cutAt B : Nat)))) fONo = M.pure (.lst ((R.drop (cutAt B)).map itC)) := by
    show M.pure (D.lst (cutL (R.map itC) (some ((cutAt B : Nat) : Int)) none)) = _
    unfold cutL
    rw [HT.sIx_none, HT.sIx_nat, List.length_map, Nat.min_eq_left (by omega), List.take_of_length_le (by rw [List.length_drop, List.length_map]; omega), List.map_drop]
  simp only []
  rw [s1, s2]
  rfl
end Rp
end
noncomputable section
namespace Rp
open PySem Pm Rn

def wsum (B : List CN) (p : Nat) : Int := (B.map fun e => prt e.1 p * (e.2 : Int)).sum
def totN (B : List CN) : Nat := (B.map (·.2)).sum
def meanB (B : List CN) : C4 := (rnd (wsum B 0) (totN B), rnd (wsum B 1) (totN B), rnd (wsum B 2) (totN B), rnd (wsum B 3) (totN B))
theorem mem_sum : ∀ {B : List CN} {e : CN}, e ∈ B → e.2 ≤ totN B
  | [], _, h => by cases h
  | x :: B, e, h => by
    unfold totN
    rw [List.map_cons, List.sum_cons]
    rcases List.mem_cons.mp h with rfl | h
    · omega
    · have := mem_sum h
      unfold totN at this
      omega
theorem wsum_go {B : List CN} (hs : totN B ≤ 1000000) {p : Nat} (hp : p < 4) : fCB sumF (fCons (fLC (fItems (M.pure (.lst (B.map itC)))) fun it2_ => (fU2 it2_ fun colour_ many_ => (fBin mulD (fBin ixD (M.pure colour_) (M.pure (.int p))) (M.pure many_)))) fNil) = M.pure (.int (wsum B p)) := by
  rw [f_items, i_lst, opt_some, f_lc, map_of (f := fun it2_ => (fU2 it2_ fun colour_ many_ => (fBin mulD (fBin ixD (M.pure colour_) (M.pure (.int p))) (M.pure many_)))) (E := itC) (g := fun e : CN => .int (prt e.1 p * (e.2 : Int))) (fun e he => by
    show fBin mulD (fBin ixD (M.pure (col e.1)) (M.pure (.int p))) (M.pure (.int e.2)) = _
    have := mem_sum he
    rw [f_bin, ix_prt e.1 hp, opt_some, f_bin, o_mulR (by omega) (by omega), opt_some]), Pm.pure_bind]
  have e : B.map (fun e : CN => D.int (prt e.1 p * (e.2 : Int))) = (B.map fun e => prt e.1 p * (e.2 : Int)).map D.int := by rw [List.map_map]; rfl
  rw [e, sum_ints]
  rfl
theorem mean_eq {B : List CN} (h0 : 0 < totN B) (hs : totN B ≤ 1000000) : m_mean_of [.lst (B.map itC)] = M.pure (col (meanB B)) := by
  have rg : fRng (fCons (M.pure (D.int 4)) fNil) = M.pure ([0, 1, 2, 3].map fun p : Nat => D.int (p : Int)) := by kernel_rfl
  show p_mean_of _ = _
  unfold p_mean_of
  rw [total_eq, Pm.pure_bind, rg, f_lc, map_of (f := fun at_ => (fCall m_rounded (fCons (fCB sumF (fCons (fLC (fItems (M.pure (.lst (B.map itC)))) fun it2_ => (fU2 it2_ fun colour_ many_ => (fBin mulD (fBin ixD (M.pure colour_) (M.pure at_)) (M.pure many_)))) fNil)) (fCons (M.pure (.int ((B.map (·.2)).sum : Nat))) fNil)))) (E := fun p : Nat => D.int (p : Int)) (g := fun p : Nat => .int (rnd (wsum B p) (totN B))) (fun p hp => by
    have hp4 : p < 4 := by simp at hp; omega
    rw [wsum_go hs hp4, call2]
    exact rounded_eq (by show (0 : Int) < ((totN B : Nat) : Int); omega) (by show ((totN B : Nat) : Int) < _; omega)), Pm.pure_bind]
  rfl
theorem rel_tot {B : List CN} {L : List C4} (h : Rel B L) : totN B = L.length := h.len.symm
theorem rel_pos {B : List CN} {L : List C4} (h : Rel B L) : 0 < totN B := by
  rw [rel_tot h]
  exact List.length_pos_iff.mpr h.nel
end Rp
end
noncomputable section
namespace Rp
open PySem Pm Rn

theorem rg4 : fRng (fCons (M.pure (D.int 4)) fNil) = M.pure ([0, 1, 2, 3].map fun p : Nat => D.int (p : Int)) := by kernel_rfl

def SL (p : Nat) (L : List C4) : List C4 := L.mergeSort (leC p)
theorem SL_perm (p : Nat) (L : List C4) : (SL p L).Perm L := List.mergeSort_perm _ _
theorem SL_le (p : Nat) (L : List C4) : (SL p L).Pairwise fun a b => leC p a b = true :=
  List.pairwise_mergeSort (le := leC p) (fun a b c h1 h2 => le_trans' h1 h2) (fun a b => le_total p a b) L

def dd (u : List C4) (c : C4) : List C4 := if c ∈ u then u else u ++ [c]
theorem dd_len (u : List C4) (c : C4) : (dd u c).length ≤ u.length + 1 := by unfold dd; split <;> simp
theorem dd_mem {c x : C4} {u : List C4} : x ∈ dd u c ↔ x ∈ u ∨ x = c := by
  unfold dd
  split
  · rename_i h
    exact ⟨.inl, fun z => z.elim id fun z => by rw [z]; exact h⟩
  · simp
theorem fold_dd_mem {x : C4} : ∀ (l u : List C4), x ∈ l.foldl dd u ↔ x ∈ u ∨ x ∈ l
  | [], u => by simp
  | c :: l, u => by rw [List.foldl_cons, fold_dd_mem l, dd_mem, List.mem_cons, or_assoc]
theorem dd_inc {p : Nat} {c : C4} {u : List C4} (hn : u.Nodup) (hs : u.Pairwise fun a b => leC p a b = true) (hc : ∀ x ∈ u, leC p x c = true) : (dd u c).Nodup ∧ (dd u c).Pairwise fun a b => leC p a b = true := by
  unfold dd
  split
  · exact ⟨hn, hs⟩
  · rename_i h
    refine ⟨?_, ?_⟩
    · rw [List.nodup_append]
      exact ⟨hn, by simp, fun a ha b hb => by rw [List.mem_singleton.mp hb]; exact fun z => h (by rw [← z]; exact ha)⟩
    · rw [List.pairwise_append]
      exact ⟨hs, by simp, fun a ha b hb => by rw [List.mem_singleton.mp hb]; exact hc a ha⟩
theorem fold_dd_inc {p : Nat} : ∀ (l u : List C4), u.Nodup → (u.Pairwise fun a b => leC p a b = true) → (l.Pairwise fun a b => leC p a b = true) → (∀ x ∈ u, ∀ y ∈ l, leC p x y = true) → (l.foldl dd u).Nodup ∧ (l.foldl dd u).Pairwise fun a b => leC p a b = true
  | [], u, hn, hs, _, _ => ⟨hn, hs⟩
  | c :: l, u, hn, hs, hl, hc => by
    rw [List.pairwise_cons] at hl
    obtain ⟨h1, h2⟩ := dd_inc hn hs (fun x hx => hc x hx c List.mem_cons_self)
    refine fold_dd_inc l (dd u c) h1 h2 hl.2 fun x hx y hy => ?_
    rcases dd_mem.mp hx with h | rfl
    · exact hc x h y (List.mem_cons_of_mem _ hy)
    · exact hl.1 y hy
theorem unlike_rows {B : List CN} {L : List C4} (h : Rel B L) (p : Nat) : (SL p L).foldl dd [] = (rowsC p B).map (·.1) := by
  obtain ⟨h1, h2⟩ := fold_dd_inc (p := p) (SL p L) [] (by simp) (by simp) (SL_le p L) (by simp)
  have h3 : ((rowsC p B).map (·.1)).Nodup := (((rows_perm p B).map (·.1)).nodup_iff).mpr h.nd
  refine List.Perm.eq_of_pairwise (le := fun a b => leC p a b = true) (fun a b _ _ q1 q2 => le_anti q1 q2) h2 (rows_le p B) ?_
  refine (List.perm_ext_iff_of_nodup h1 h3).mpr fun x => ?_
  rw [fold_dd_mem, (SL_perm p L).mem_iff, h.mem, ((rows_perm p B).map (·.1)).mem_iff]
  simp

def lowS (S : List C4) (low : List C4) (c : C4) : List C4 := if 2 * low.length < S.length then low ++ S.filter (fun x => decide (x = c)) else low
theorem low_stop (S : List C4) : ∀ (l low : List C4), ¬ 2 * low.length < S.length → l.foldl (lowS S) low = low
  | [], _, _ => rfl
  | c :: l, low, h => by
    have e : lowS S low c = low := if_neg h
    rw [List.foldl_cons, e, low_stop S l low h]
theorem one_row : ∀ {R : List CN} {e : CN}, (R.map (·.1)).Nodup → e ∈ R → R.filter (fun x => decide (x.1 = e.1)) = [e]
  | [], _, _, h => by cases h
  | x :: R, e, nd, h => by
    rw [List.map_cons, List.nodup_cons] at nd
    rw [List.filter_cons]
    rcases List.mem_cons.mp h with rfl | h
    · rw [decide_eq_true rfl, if_pos rfl, List.filter_eq_nil_iff.mpr fun y hy => by
        rw [decide_eq_true_eq]
        exact fun z => nd.1 (by rw [← z]; exact List.mem_map.mpr ⟨y, hy, rfl⟩)]
    · rw [decide_eq_false (fun z => nd.1 (by rw [z]; exact List.mem_map.mpr ⟨e, h, rfl⟩)), if_neg (by decide), one_row nd.2 h]
theorem low_perm {R : List CN} {S : List C4} (h : Rel R S) : ∀ (rest pre : List CN) (low : List C4), R = pre ++ rest → rest ≠ [] → low.Perm (exp pre) →
    (((rest.map (·.1)).dropLast).foldl (lowS S) low).Perm (exp (pre ++ rest.take (cutM (totN R) (totN pre) rest)))
  | [], _, _, _, h, _ => absurd rfl h
  | [e], pre, low, _, _, hp => by
    simpa [cutM] using hp
  | e :: e' :: r, pre, low, hr, _, hp => by
    have hlen : low.length = totN pre := by rw [hp.length_eq, exp_len]; rfl
    have hT : S.length = totN R := (rel_tot h).symm
    rw [List.map_cons, List.map_cons, List.dropLast_cons₂, List.foldl_cons]
    by_cases z : 2 * totN pre < totN R
    · have hin : e ∈ R := by rw [hr]; simp
      have hf : (S.filter fun x => decide (x = e.1)).Perm (exp [e]) := by
        have := h.perm.filter fun x => decide (x = e.1)
        rw [exp_filter, one_row h.nd hin] at this
        exact this
      have e1 : lowS S low e.1 = low ++ S.filter (fun x => decide (x = e.1)) := if_pos (by omega)
      have hp2 : (lowS S low e.1).Perm (exp (pre ++ [e])) := by
        rw [e1, exp_append]
        exact hp.append hf
      have ih := low_perm h (e' :: r) (pre ++ [e]) _ (by rw [hr]; simp) (by simp) hp2
      have et : totN (pre ++ [e]) = totN pre + e.2 := by unfold totN; simp
      rw [cutM, if_pos z, List.take_succ_cons]
      rw [et, List.append_assoc] at ih
      exact ih
    · have e1 : lowS S low e.1 = low := if_neg (by omega)
      rw [e1, ← List.map_cons, low_stop S _ _ (by omega), cutM, if_neg z, List.take_zero, List.append_nil]
      exact hp

def lowF (p : Nat) (L : List C4) : List C4 := (((SL p L).foldl dd []).dropLast).foldl (lowS (SL p L)) []
def highF (p : Nat) (L : List C4) : List C4 := (SL p L).filter fun x => !decide (x ∈ lowF p L)

theorem tot_perm {A B : List CN} (h : A.Perm B) : totN A = totN B := by
  unfold totN
  exact (h.map fun e : CN => e.2).sum_nat
theorem drop_rows {R : List CN} (nd : (R.map (·.1)).Nodup) (m : Nat) {q : C4 → Bool} (hq : ∀ x, q x = true ↔ x ∉ (R.take m).map (·.1)) : R.filter (fun e => q e.1) = R.drop m := by
  have e : R = R.take m ++ R.drop m := (List.take_append_drop m R).symm
  have nd2 := nd
  rw [e, List.map_append, List.nodup_append] at nd2
  have h1 : (R.take m).filter (fun e => q e.1) = [] := List.filter_eq_nil_iff.mpr fun x hx => by
    intro z
    exact (hq x.1).mp z (List.mem_map.mpr ⟨x, hx, rfl⟩)
  have h2 : (R.drop m).filter (fun e => q e.1) = R.drop m := List.filter_eq_self.mpr fun x hx => by
    rw [hq]
    intro z
    exact nd2.2.2 _ z _ (List.mem_map.mpr ⟨x, hx, rfl⟩) rfl
  have h3 : (R.take m ++ R.drop m).filter (fun e => q e.1) = R.drop m := by rw [List.filter_append, h1, h2, List.nil_append]
  rw [← e] at h3
  exact h3
theorem prtM_rel {B : List CN} {L : List C4} (h : Rel B L) : prtM L = prtM (B.map (·.1)) := by unfold prtM; rw [sprs_eq h]
theorem cut_rel {B : List CN} {L : List C4} (h : Rel B L) (h2 : 2 ≤ B.length) : Rel ((rowsC (prtM (B.map (·.1))) B).take (cutAt B)) (lowF (prtM L) L) ∧ Rel ((rowsC (prtM (B.map (·.1))) B).drop (cutAt B)) (highF (prtM L) L) := by
  rw [prtM_rel h]
  generalize hp : prtM (B.map (·.1)) = p
  have hr := rows_perm p B
  have hs := SL_perm p L
  have hRS : Rel (rowsC p B) (SL p L) := h.of_perm hr hs
  have hu := unlike_rows h p
  have hc : cutAt B = cutM (totN (rowsC p B)) 0 (rowsC p B) := by
    unfold cutAt
    rw [hp, tot_perm hr]
    rfl
  have hpos := rel_pos hRS
  have hlen : (rowsC p B).length = B.length := hr.length_eq
  have hlow : (lowF p L).Perm (exp ((rowsC p B).take (cutAt B))) := by
    unfold lowF
    rw [hu, hc]
    have := low_perm hRS (rowsC p B) [] [] rfl hRS.ne (List.Perm.refl _)
    exact this
  have hlt : cutAt B < (rowsC p B).length := by rw [hc]; exact cutM_lt _ _ _ hRS.ne
  have hge : 1 ≤ cutAt B := by
    rw [hc]
    match hR : rowsC p B with
    | [] => exact absurd hR hRS.ne
    | [e] => rw [hR] at hlen; simp at hlen; omega
    | e :: e' :: r =>
      rw [hR] at hpos
      rw [cutM, if_pos (by omega)]
      omega
  generalize cutAt B = m at hlow hlt hge
  have r1 : Rel ((rowsC p B).take m) (lowF p L) := by
    refine ⟨((List.take_sublist m _).map _).nodup hRS.nd, fun e he => hRS.pos e (List.mem_of_mem_take he), fun z => ?_, hlow⟩
    have z2 := congrArg List.length z
    rw [List.length_take, List.length_nil] at z2
    omega
  refine ⟨r1, ?_⟩
  have hd := drop_rows hRS.nd m (q := fun x => !decide (x ∈ lowF p L)) (fun x => by
    rw [Bool.not_eq_true', decide_eq_false_iff_not, r1.mem])
  have := hRS.part (fun x => !decide (x ∈ lowF p L)) (by
    rw [hd]
    intro z
    have z2 := congrArg List.length z
    rw [List.length_drop, List.length_nil] at z2
    omega)
  rw [hd] at this
  exact this

theorem sl_to (l : List D) {m : Nat} (h : m ≤ l.length) : fSl (M.pure (.lst l)) fONo (fOSo (M.pure (.int m))) = M.pure (.lst (l.take m)) := by
  show M.pure (D.lst (cutL l none (some ((m : Nat) : Int)))) = _
  unfold cutL
  rw [HT.sIx_none, HT.sIx_nat, List.drop_zero, Nat.sub_zero, Nat.min_eq_left h]
theorem sl_from (l : List D) {m : Nat} (h : m ≤ l.length) : fSl (M.pure (.lst l)) (fOSo (M.pure (.int m))) fONo = M.pure (.lst (l.drop m)) := by
  show M.pure (D.lst (cutL l (some ((m : Nat) : Int)) none)) = _
  unfold cutL
  rw [HT.sIx_none, HT.sIx_nat, Nat.min_eq_left h, List.take_of_length_le (by rw [List.length_drop]; exact Nat.le_refl _)]
def toldB (Bs : List (List CN)) : List Int := Bs.map fun B => mxL (sprs (B.map (·.1)))
def toldL (Ls : List (List C4)) : List Int := Ls.map fun L => mxL (sprs L)
def bxB (B : List CN) : D := .lst (B.map itC)
def cutB (B : List CN) : List (List CN) := [(rowsC (prtM (B.map (·.1))) B).take (cutAt B), (rowsC (prtM (B.map (·.1))) B).drop (cutAt B)]
def cutLs (L : List C4) : List (List C4) := [lowF (prtM L) L, highF (prtM L) L]
def stepB (Bs : List (List CN)) : List (List CN) := Bs.take (idxM (toldB Bs)) ++ cutB (Bs.getD (idxM (toldB Bs)) []) ++ Bs.drop (idxM (toldB Bs) + 1)
def stepL (Ls : List (List C4)) : List (List C4) := Ls.take (idxM (toldL Ls)) ++ cutLs (Ls.getD (idxM (toldL Ls)) []) ++ Ls.drop (idxM (toldL Ls) + 1)
def okB (Bs : List (List CN)) : Prop := ∀ B ∈ Bs, B ≠ [] ∧ B.length ≤ 400 ∧ totN B ≤ 400
theorem turnB {Bs : List (List CN)} (many : D) (hne : Bs ≠ []) (hB : okB Bs) (hl : Bs.length ≤ 1000) (k kb : D → M D) : l0_palette_for many (.lst (Bs.map bxB)) k kb = if mxL (toldB Bs) = 0 then kb (.lst (Bs.map bxB)) else k (.lst ((stepB Bs).map bxB)) := by
  have tne : toldB Bs ≠ [] := fun z => hne (List.map_eq_nil_iff.mp z)
  have e1 : (fLC (fItems (M.pure (.lst (Bs.map bxB)))) fun box_ => (fCB maxF (fCons (fCall m_spreads (fCons (M.pure box_) fNil)) fNil))) = M.pure (.lst ((toldB Bs).map D.int)) := by
    rw [f_items, i_lst, opt_some, f_lc, map_of (f := fun box_ => (fCB maxF (fCons (fCall m_spreads (fCons (M.pure box_) fNil)) fNil))) (E := bxB) (g := fun B : List CN => .int (mxL (sprs (B.map (·.1))))) (fun B hb => by
      unfold bxB
      rw [call1, spreads_eq (hB B hb).1, max_go (sprs_ne _)]), Pm.pure_bind]
    unfold toldB
    rw [List.map_map]
    rfl
  obtain ⟨h1, h2⟩ := idxM_spec tne
  have h1' : idxM (toldB Bs) < Bs.length := by unfold toldB at h1 ⊢; rw [List.length_map] at h1; exact h1
  have e2 : fBin ixD (M.pure (.lst ((toldB Bs).map D.int))) (M.pure (.int (idxM (toldB Bs)))) = M.pure (.int (mxL (toldB Bs))) := by
    have := at_map (E := D.int) (i := ((idxM (toldB Bs) : Nat) : Int)) rfl h2
    rw [f_bin, ix_lst, this, opt_some]
  have hget : Bs[idxM (toldB Bs)]? = some (Bs.getD (idxM (toldB Bs)) []) := by rw [List.getD_eq_getElem?_getD, List.getElem?_eq_getElem h1']; rfl
  have hin : Bs.getD (idxM (toldB Bs)) [] ∈ Bs := List.mem_of_getElem? hget
  have e3 : fBin ixD (M.pure (.lst (Bs.map bxB))) (M.pure (.int (idxM (toldB Bs)))) = M.pure (bxB (Bs.getD (idxM (toldB Bs)) [])) := by
    have := at_map (E := bxB) (i := ((idxM (toldB Bs) : Nat) : Int)) rfl hget
    rw [f_bin, ix_lst, this, opt_some]
  obtain ⟨b1, b2, b3⟩ := hB _ hin
  have e4 : fCall m_cut_box (fCons (M.pure (bxB (Bs.getD (idxM (toldB Bs)) []))) fNil) = M.pure (.lst ((cutB (Bs.getD (idxM (toldB Bs)) [])).map bxB)) := by
    have b3' : ((Bs.getD (idxM (toldB Bs)) []).map (·.2)).sum ≤ 1000000 := Nat.le_trans b3 (by decide)
    unfold bxB
    rw [call1, cut_eq b1 (by omega) b3']
    rfl
  unfold l0_palette_for
  rw [e1, Pm.pure_bind, max_go tne, idx_go tne, Pm.pure_bind, e2, f_bin, o_eq, opt_some, f_of, f_if]
  by_cases z : mxL (toldB Bs) = 0
  · rw [if_pos z, if_pos (by rw [z]; rfl)]
  · rw [if_neg z, if_neg (by simpa using z), e3, e4, sl_to _ (by rw [List.length_map]; omega), f_bin, o_addL (by simp [cutB]; omega), opt_some, f_bin (a := .int (idxM (toldB Bs)))]
    show (fBin addD (M.pure _) (fSl (M.pure (.lst (Bs.map bxB))) (fOSo (M.pure (.int ((idxM (toldB Bs) : Nat) + 1 : Int)))) fONo)).bind _ = _
    rw [show ((idxM (toldB Bs) : Nat) : Int) + 1 = ((idxM (toldB Bs) + 1 : Nat) : Int) from rfl, sl_from _ (by rw [List.length_map]; omega), f_bin, o_addL (by simp [cutB]; omega), opt_some, Pm.pure_bind]
    unfold stepB
    rw [List.map_append, List.map_append, List.map_take, List.map_drop]
def okLs (Ls : List (List C4)) : Prop := ∀ L ∈ Ls, L ≠ [] ∧ L.length ≤ 400
inductive Al : List (List CN) → List (List C4) → Prop
  | nil : Al [] []
  | cons {B : List CN} {L : List C4} {Bs : List (List CN)} {Ls : List (List C4)} : Rel B L → Al Bs Ls → Al (B :: Bs) (L :: Ls)
theorem Al.told : ∀ {Bs : List (List CN)} {Ls : List (List C4)}, Al Bs Ls → toldL Ls = toldB Bs
  | _, _, .nil => rfl
  | _, _, .cons h t => by
    show mxL (sprs _) :: toldL _ = mxL (sprs _) :: toldB _
    rw [sprs_eq h, Al.told t]
theorem Al.len : ∀ {Bs : List (List CN)} {Ls : List (List C4)}, Al Bs Ls → Ls.length = Bs.length
  | _, _, .nil => rfl
  | _, _, .cons h t => by rw [List.length_cons, List.length_cons, Al.len t]
theorem Al.append : ∀ {Bs Bs' : List (List CN)} {Ls Ls' : List (List C4)}, Al Bs Ls → Al Bs' Ls' → Al (Bs ++ Bs') (Ls ++ Ls')
  | _, _, _, _, .nil, t => t
  | _, _, _, _, .cons h r, t => .cons h (Al.append r t)
theorem Al.take : ∀ {Bs : List (List CN)} {Ls : List (List C4)} (n : Nat), Al Bs Ls → Al (Bs.take n) (Ls.take n)
  | _, _, 0, _ => by simpa using Al.nil
  | _, _, n + 1, .nil => by simpa using Al.nil
  | _, _, n + 1, .cons h t => by rw [List.take_succ_cons, List.take_succ_cons]; exact .cons h (Al.take n t)
theorem Al.drop : ∀ {Bs : List (List CN)} {Ls : List (List C4)} (n : Nat), Al Bs Ls → Al (Bs.drop n) (Ls.drop n)
  | _, _, 0, h => h
  | _, _, n + 1, .nil => by simpa using Al.nil
  | _, _, n + 1, .cons h t => by rw [List.drop_succ_cons, List.drop_succ_cons]; exact Al.drop n t
theorem Al.get : ∀ {Bs : List (List CN)} {Ls : List (List C4)} {i : Nat}, Al Bs Ls → i < Bs.length → Rel (Bs.getD i []) (Ls.getD i [])
  | _, _, _, .nil, h => by simp at h
  | _, _, 0, .cons h t, _ => by simpa using h
  | _, _, i + 1, .cons h t, hi => by
    have := Al.get (i := i) t (by simpa using hi)
    simpa using this
theorem spr_nn {cs : List C4} (h : cs ≠ []) (p : Nat) : 0 ≤ spr cs p := by
  have hne : cs.map (fun c => prt c p) ≠ [] := fun z => h (List.map_eq_nil_iff.mp z)
  unfold spr
  have := (mx_spec hne).2 _ (mn_spec hne).1
  omega
theorem sprs_nn {cs : List C4} (h : cs ≠ []) : 0 ≤ mxL (sprs cs) := by
  have h1 := (mx_spec (sprs_ne cs)).2 (spr cs 0) (by unfold sprs; exact List.mem_map.mpr ⟨0, by simp, rfl⟩)
  have := spr_nn h 0
  omega
theorem two_rows {B : List CN} (hB : B ≠ []) (h : 0 < mxL (sprs (B.map (·.1)))) : 2 ≤ B.length := by
  match B, hB with
  | [e], _ =>
    have z := (mx_spec (sprs_ne [e.1])).1
    obtain ⟨p, _, hp⟩ := List.mem_map.mp z
    have hp : spr [e.1] p = mxL (sprs [e.1]) := hp
    have h : 0 < mxL (sprs [e.1]) := h
    rw [← hp] at h
    unfold spr at h
    simp [mxL, mnL] at h
  | e :: e' :: r, _ => simp
theorem Al.step {Bs : List (List CN)} {Ls : List (List C4)} (h : Al Bs Ls) (hne : Bs ≠ []) (hp : 0 < mxL (toldB Bs)) : Al (stepB Bs) (stepL Ls) := by
  have tne : toldB Bs ≠ [] := fun z => hne (List.map_eq_nil_iff.mp z)
  obtain ⟨h1, h2⟩ := idxM_spec tne
  have h1' : idxM (toldB Bs) < Bs.length := by unfold toldB at h1 ⊢; rw [List.length_map] at h1; exact h1
  have hr := h.get h1'
  have hm : mxL (sprs ((Bs.getD (idxM (toldB Bs)) []).map (·.1))) = mxL (toldB Bs) := by
    have h3 : (toldB Bs)[idxM (toldB Bs)]? = some (mxL (sprs ((Bs.getD (idxM (toldB Bs)) []).map (·.1)))) := by
      show (Bs.map _)[idxM (toldB Bs)]? = _
      rw [List.getElem?_map, List.getD_eq_getElem?_getD, List.getElem?_eq_getElem h1']
      rfl
    rw [h2] at h3
    exact (Option.some.inj h3).symm
  obtain ⟨c1, c2⟩ := cut_rel hr (two_rows hr.ne (by rw [hm]; exact hp))
  unfold stepB stepL
  rw [h.told]
  exact ((h.take _).append (.cons c1 (.cons c2 .nil))).append (h.drop _)

theorem tot_len {B : List CN} (h : ∀ e ∈ B, 0 < e.2) : B.length ≤ totN B := by
  induction B with
  | nil => simp
  | cons e B ih =>
    have h0 := h e List.mem_cons_self
    have := ih fun x hx => h x (List.mem_cons_of_mem _ hx)
    unfold totN at this ⊢
    rw [List.map_cons, List.sum_cons, List.length_cons]
    omega
theorem tot_app (A B : List CN) : totN (A ++ B) = totN A + totN B := by unfold totN; simp
def smB (Bs : List (List CN)) : Prop := ∀ B ∈ Bs, totN B ≤ 400
theorem Al.ok {Bs : List (List CN)} {Ls : List (List C4)} (h : Al Bs Ls) (hs : smB Bs) : okB Bs ∧ okLs Ls := by
  induction h with
  | nil => exact ⟨(fun B hB => by cases hB), (fun L hL => by cases hL)⟩
  | cons h t ih =>
    rename_i B L Bs Ls
    obtain ⟨i1, i2⟩ := ih fun x hx => hs x (List.mem_cons_of_mem _ hx)
    have h0 := hs B List.mem_cons_self
    refine ⟨fun x hx => ?_, fun x hx => ?_⟩
    · rcases List.mem_cons.mp hx with rfl | hx
      · exact ⟨h.ne, Nat.le_trans (tot_len h.pos) h0, h0⟩
      · exact i1 x hx
    · rcases List.mem_cons.mp hx with rfl | hx
      · exact ⟨h.nel, by rw [← rel_tot h]; exact h0⟩
      · exact i2 x hx
theorem sm_step {Bs : List (List CN)} (hne : Bs ≠ []) (hs : smB Bs) : smB (stepB Bs) ∧ (stepB Bs).length = Bs.length + 1 := by
  have tne : toldB Bs ≠ [] := fun z => hne (List.map_eq_nil_iff.mp z)
  obtain ⟨h1, _⟩ := idxM_spec tne
  have h1' : idxM (toldB Bs) < Bs.length := by unfold toldB at h1 ⊢; rw [List.length_map] at h1; exact h1
  have hin : Bs.getD (idxM (toldB Bs)) [] ∈ Bs := List.mem_of_getElem? (i := idxM (toldB Bs)) (by rw [List.getD_eq_getElem?_getD, List.getElem?_eq_getElem h1']; rfl)
  have hB := hs _ hin
  refine ⟨fun B hb => ?_, ?_⟩
  · unfold stepB at hb
    rcases List.mem_append.mp hb with hb | hb
    · rcases List.mem_append.mp hb with hb | hb
      · exact hs B (List.mem_of_mem_take hb)
      · generalize Bs.getD (idxM (toldB Bs)) [] = C at hb hB
        have hr := tot_perm (rows_perm (prtM (C.map (·.1))) C)
        have e := List.take_append_drop (cutAt C) (rowsC (prtM (C.map (·.1))) C)
        have e2 := tot_app ((rowsC (prtM (C.map (·.1))) C).take (cutAt C)) ((rowsC (prtM (C.map (·.1))) C).drop (cutAt C))
        rw [e] at e2
        unfold cutB at hb
        rcases List.mem_cons.mp hb with rfl | hb
        · omega
        · rw [List.mem_singleton.mp hb]; omega
    · exact hs B (List.mem_of_mem_drop hb)
  · unfold stepB cutB
    rw [List.length_append, List.length_append, List.length_take, List.length_drop]
    simp
    omega
def itB : Nat → List (List CN) → List (List CN)
  | 0, Bs => Bs
  | j + 1, Bs => if mxL (toldB Bs) = 0 then Bs else itB j (stepB Bs)
def itL : Nat → List (List C4) → List (List C4)
  | 0, Ls => Ls
  | j + 1, Ls => if mxL (toldL Ls) > 0 then itL j (stepL Ls) else itL j Ls
theorem itL_stop {Ls : List (List C4)} (h : ¬ mxL (toldL Ls) > 0) : ∀ j, itL j Ls = Ls
  | 0 => rfl
  | j + 1 => by rw [itL, if_neg h, itL_stop h j]
theorem Al.bne : ∀ {Bs : List (List CN)} {Ls : List (List C4)}, Al Bs Ls → ∀ B ∈ Bs, B ≠ []
  | _, _, .nil, _, h => by cases h
  | _, _, .cons h t, B, hb => by
    rcases List.mem_cons.mp hb with rfl | hb
    · exact h.ne
    · exact Al.bne t B hb
theorem told_nn {Bs : List (List CN)} {Ls : List (List C4)} (h : Al Bs Ls) (hne : Bs ≠ []) : 0 ≤ mxL (toldB Bs) := by
  have tne : toldB Bs ≠ [] := fun z => hne (List.map_eq_nil_iff.mp z)
  obtain ⟨B, hb, e⟩ := List.mem_map.mp (mx_spec tne).1
  have e : mxL (sprs (B.map (·.1))) = mxL (toldB Bs) := e
  rw [← e]
  refine sprs_nn fun z => ?_
  have hB : B ≠ [] := h.bne B hb
  exact hB (List.map_eq_nil_iff.mp z)
theorem step_ne {Bs : List (List CN)} (hne : Bs ≠ []) (hs : smB Bs) : stepB Bs ≠ [] := fun z => by
  have := (sm_step hne hs).2
  rw [z] at this
  simp at this
theorem Al.it : ∀ (j : Nat) {Bs : List (List CN)} {Ls : List (List C4)}, Al Bs Ls → Bs ≠ [] → smB Bs → Al (itB j Bs) (itL j Ls)
  | 0, _, _, h, _, _ => h
  | j + 1, Bs, Ls, h, hne, hs => by
    have nn := told_nn h hne
    by_cases z : mxL (toldB Bs) = 0
    · rw [itB, if_pos z, itL_stop (by rw [h.told]; omega)]
      exact h
    · rw [itB, if_neg z, itL, if_pos (by rw [h.told]; omega)]
      exact Al.it j (h.step hne (by omega)) (step_ne hne hs) (sm_step hne hs).1
theorem loopB {many : Nat} (hm : many ≤ 100) (K : D → M D) : ∀ (j n : Nat) {Bs : List (List CN)} {Ls : List (List C4)}, Al Bs Ls → Bs ≠ [] → smB Bs → Bs.length + j = many → j < n → fWhileB (c0_palette_for (.int many)) (l0_palette_for (.int many)) n (.lst (Bs.map bxB)) K = K (.lst ((itB j Bs).map bxB))
  | 0, n + 1, Bs, Ls, h, hne, hs, hl, _ => by
    have ec : c0_palette_for (.int many) (.lst (Bs.map bxB)) = M.pure false := by
      have e3 : decide ((Bs.length : Int) < (many : Int)) = false := decide_eq_false (by omega)
      unfold c0_palette_for
      simp (config := { maxSteps := 3000000 }) (disch := first | omega | (simp only [List.length_map, List.length_cons, List.length_nil, List.length_append, List.length_replicate, List.length_set, List.length_range, nts_len, List.length_take, List.length_drop]; omega) | kernel_rfl) only [in_int, ng_int, mx_nil, mx_cons, o_ne_self, o_eq_self, ls_lst, Pm.pure_bind, bad_bind, raise_bind, opt_some, opt_none, Pm.bind_assoc, Pm.bind_pure, f_bin, f_nil, f_cons, f_tup, f_lst, f_call, f_cb, f_if, f_of, f_ofv, f_tru, f_andB, f_orB, f_notB, f_and, f_or, f_not, f_neg, f_chain, f_sl, f_ono, f_oso, f_items, f_zip, f_enum, f_rng, f_lc, f_lcf, f_lc2, f_in, f_lz, f_app, f_ext, f_seti, f_isi, f_u2, f_u3, f_u4, i_tup, i_lst, z_tup, z_lst, zl_nil, zl_cons, en_tup, en_lst, en_nil, en_cons, x_nil, x_cons, x_map, x_pure, xf_nil, xf_cons, xc_nil, xc_cons, noEx_pure, o_add, o_sub, o_lt, o_le, o_gt, o_ge, o_eq, o_ne, o_mulL, o_mulR, o_div, o_mod, o_addT, o_addL, o_iadd, Pm.ix_tup, ix_lst, Pm.sl_tup, sl_lst, b_len_t, b_len_l, b_abs, b_int_i, b_int_b, b_sum, b_all, b_any, b_tup_l, b_tup_t, b_lst_l, b_lst_t, b_max2, b_max3, b_min2, b_min3, t_bl, t_int, t_tup, t_lst, t_non, a_app, a_ext, bl_bl, decide_true, decide_false, Bool.not_true, Bool.not_false, if_true, if_false, Bool.false_eq_true, for_nil, for_cons, ls_cons, ls_nil, at0, at1, at2, at3, at4, List.cons_append, List.nil_append, List.length_cons, List.length_nil, List.length_map, n_ot, isi_int', isi_bool', isi_tup', isi_str', dn_non, dn_int, dn_tup, dn_str, dn_bl, dnn_non, dnn_int, dnn_tup, dnn_str, dnn_bl, decide_eq_true_eq, fBin, fCons, fTup, fLst, fCall, fCB, fIf, fOf, fTru, fAndB, fOrB, fNotB, fAnd, fOr, fNot, fNeg, fChain, fSl, fOSo, fItems, fZip, fEnum, fRng, fLC, fLCf, fLC2, fIn, fLz, fApp, fExt, fSetI, fIsi, List.length_map, e3]
    show fIf (c0_palette_for (.int many) (.lst (Bs.map bxB))) _ _ = _
    rw [ec, f_if, if_neg (by decide)]
    rfl
  | j + 1, n + 1, Bs, Ls, h, hne, hs, hl, hn => by
    have ec : c0_palette_for (.int many) (.lst (Bs.map bxB)) = M.pure true := by
      have e3 : decide ((Bs.length : Int) < (many : Int)) = true := decide_eq_true (by omega)
      unfold c0_palette_for
      simp (config := { maxSteps := 3000000 }) (disch := first | omega | (simp only [List.length_map, List.length_cons, List.length_nil, List.length_append, List.length_replicate, List.length_set, List.length_range, nts_len, List.length_take, List.length_drop]; omega) | kernel_rfl) only [in_int, ng_int, mx_nil, mx_cons, o_ne_self, o_eq_self, ls_lst, Pm.pure_bind, bad_bind, raise_bind, opt_some, opt_none, Pm.bind_assoc, Pm.bind_pure, f_bin, f_nil, f_cons, f_tup, f_lst, f_call, f_cb, f_if, f_of, f_ofv, f_tru, f_andB, f_orB, f_notB, f_and, f_or, f_not, f_neg, f_chain, f_sl, f_ono, f_oso, f_items, f_zip, f_enum, f_rng, f_lc, f_lcf, f_lc2, f_in, f_lz, f_app, f_ext, f_seti, f_isi, f_u2, f_u3, f_u4, i_tup, i_lst, z_tup, z_lst, zl_nil, zl_cons, en_tup, en_lst, en_nil, en_cons, x_nil, x_cons, x_map, x_pure, xf_nil, xf_cons, xc_nil, xc_cons, noEx_pure, o_add, o_sub, o_lt, o_le, o_gt, o_ge, o_eq, o_ne, o_mulL, o_mulR, o_div, o_mod, o_addT, o_addL, o_iadd, Pm.ix_tup, ix_lst, Pm.sl_tup, sl_lst, b_len_t, b_len_l, b_abs, b_int_i, b_int_b, b_sum, b_all, b_any, b_tup_l, b_tup_t, b_lst_l, b_lst_t, b_max2, b_max3, b_min2, b_min3, t_bl, t_int, t_tup, t_lst, t_non, a_app, a_ext, bl_bl, decide_true, decide_false, Bool.not_true, Bool.not_false, if_true, if_false, Bool.false_eq_true, for_nil, for_cons, ls_cons, ls_nil, at0, at1, at2, at3, at4, List.cons_append, List.nil_append, List.length_cons, List.length_nil, List.length_map, n_ot, isi_int', isi_bool', isi_tup', isi_str', dn_non, dn_int, dn_tup, dn_str, dn_bl, dnn_non, dnn_int, dnn_tup, dnn_str, dnn_bl, decide_eq_true_eq, fBin, fCons, fTup, fLst, fCall, fCB, fIf, fOf, fTru, fAndB, fOrB, fNotB, fAnd, fOr, fNot, fNeg, fChain, fSl, fOSo, fItems, fZip, fEnum, fRng, fLC, fLCf, fLC2, fIn, fLz, fApp, fExt, fSetI, fIsi, List.length_map, e3]
    show fIf (c0_palette_for (.int many) (.lst (Bs.map bxB))) _ _ = _
    rw [ec, f_if, if_pos rfl, turnB _ hne (h.ok hs).1 (by omega)]
    have nn := told_nn h hne
    by_cases z : mxL (toldB Bs) = 0
    · rw [if_pos z, itB, if_pos z]
    · rw [if_neg z, itB, if_neg z]
      exact loopB hm K j n (h.step hne (by omega)) (step_ne hne hs) (sm_step hne hs).1 (by rw [(sm_step hne hs).2]; omega) (by omega)
theorem rnd_byt {a : Int} {n : Nat} (hn : 0 < n) (h0 : 0 ≤ a) (h1 : a ≤ 255 * n) : 0 ≤ rnd a n ∧ rnd a n ≤ 255 := by
  unfold rnd
  refine ⟨Int.ediv_nonneg (by omega) (by omega), ?_⟩
  have : (2 * a + n) / (2 * (n : Int)) < 256 := Int.ediv_lt_of_lt_mul (by omega) (by omega)
  omega
theorem prt_ok {c : C4} (h : okc c) (p : Nat) : 0 ≤ prt c p ∧ prt c p ≤ 255 := by
  obtain ⟨h1, h2, h3, h4⟩ := h
  unfold prt
  split
  · exact h1
  · split
    · exact h2
    · split
      · exact h3
      · exact h4
theorem wsum_ok (p : Nat) : ∀ {B : List CN}, (∀ e ∈ B, okc e.1) → 0 ≤ wsum B p ∧ wsum B p ≤ 255 * (totN B : Int)
  | [], _ => by simp [wsum, totN]
  | e :: B, h => by
    obtain ⟨i1, i2⟩ := wsum_ok p (B := B) fun x hx => h x (List.mem_cons_of_mem _ hx)
    obtain ⟨a1, a2⟩ := prt_ok (h e List.mem_cons_self) p
    have b1 : 0 ≤ prt e.1 p * (e.2 : Int) := Int.mul_nonneg a1 (by omega)
    have b2 : prt e.1 p * (e.2 : Int) ≤ 255 * (e.2 : Int) := Int.mul_le_mul_of_nonneg_right a2 (by omega)
    have e1 : wsum (e :: B) p = prt e.1 p * (e.2 : Int) + wsum B p := by unfold wsum; rw [List.map_cons, List.sum_cons]
    have e2 : totN (e :: B) = e.2 + totN B := by unfold totN; rw [List.map_cons, List.sum_cons]
    rw [e1, e2]
    omega
theorem mean_ok {B : List CN} (h : ∀ e ∈ B, okc e.1) (hp : 0 < totN B) : okc (meanB B) := by
  have w := fun p => wsum_ok p h
  exact ⟨rnd_byt hp (w 0).1 (w 0).2, rnd_byt hp (w 1).1 (w 1).2, rnd_byt hp (w 2).1 (w 2).2, (rnd_byt hp (w 3).1 (w 3).2).1, (rnd_byt hp (w 3).1 (w 3).2).2⟩
def okcB (Bs : List (List CN)) : Prop := ∀ B ∈ Bs, ∀ e ∈ B, okc e.1
theorem okc_step {Bs : List (List CN)} (hne : Bs ≠ []) (h : okcB Bs) : okcB (stepB Bs) := by
  have tne : toldB Bs ≠ [] := fun z => hne (List.map_eq_nil_iff.mp z)
  obtain ⟨h1, _⟩ := idxM_spec tne
  have h1' : idxM (toldB Bs) < Bs.length := by unfold toldB at h1 ⊢; rw [List.length_map] at h1; exact h1
  have hin : Bs.getD (idxM (toldB Bs)) [] ∈ Bs := List.mem_of_getElem? (i := idxM (toldB Bs)) (by rw [List.getD_eq_getElem?_getD, List.getElem?_eq_getElem h1']; rfl)
  intro B hb e he
  unfold stepB at hb
  rcases List.mem_append.mp hb with hb | hb
  · rcases List.mem_append.mp hb with hb | hb
    · exact h B (List.mem_of_mem_take hb) e he
    · have hin2 : e ∈ Bs.getD (idxM (toldB Bs)) [] := by
        unfold cutB at hb
        rcases List.mem_cons.mp hb with rfl | hb
        · exact (rows_perm _ _).mem_iff.mp (List.mem_of_mem_take he)
        · rw [List.mem_singleton.mp hb] at he
          exact (rows_perm _ _).mem_iff.mp (List.mem_of_mem_drop he)
      exact h _ hin e hin2
  · exact h B (List.mem_of_mem_drop hb) e he
theorem it_ok : ∀ (j : Nat) {Bs : List (List CN)}, Bs ≠ [] → smB Bs → okcB Bs → itB j Bs ≠ [] ∧ smB (itB j Bs) ∧ okcB (itB j Bs) ∧ (itB j Bs).length ≤ Bs.length + j
  | 0, Bs, h1, h2, h3 => ⟨h1, h2, h3, Nat.le_refl _⟩
  | j + 1, Bs, h1, h2, h3 => by
    rw [itB]
    split
    · exact ⟨h1, h2, h3, by omega⟩
    · obtain ⟨a, b, c, d⟩ := it_ok j (step_ne h1 h2) (sm_step h1 h2).1 (okc_step h1 h3)
      have := (sm_step h1 h2).2
      exact ⟨a, b, c, by omega⟩


theorem ok4_quad {c : C4} (h : okc c) : ok4 (quad c) = true := by
  obtain ⟨a1, a2, a3, a4⟩ := h
  unfold ok4 quad
  simp only [List.length_cons, List.length_nil, List.all_cons, List.all_nil, Bool.and_true, decide_true, Bool.true_and, Bool.and_eq_true, decide_eq_true_eq]
  omega
theorem bd_quad {c : C4} (h : okc c) : TS.Bd 256 (quad c) := by
  obtain ⟨a1, a2, a3, a4⟩ := h
  intro m hm
  unfold quad at hm
  simp only [List.mem_cons, List.not_mem_nil, or_false] at hm
  rcases hm with rfl | rfl | rfl | rfl <;> omega
theorem fold_dd_nodup : ∀ (l u : List C4), u.Nodup → (l.foldl dd u).Nodup
  | [], _, h => h
  | c :: l, u, h => by
    rw [List.foldl_cons]
    refine fold_dd_nodup l _ ?_
    unfold dd
    split
    · exact h
    · rename_i hc
      rw [List.nodup_append]
      exact ⟨h, by simp, fun a ha b hb => by rw [List.mem_singleton.mp hb]; exact fun z => hc (by rw [← z]; exact ha)⟩
theorem fold_dd_len : ∀ (l u : List C4), (l.foldl dd u).length ≤ u.length + l.length
  | [], _ => Nat.le_refl _
  | c :: l, u => by
    have h1 := fold_dd_len l (dd u c)
    have h2 := dd_len u c
    rw [List.foldl_cons, List.length_cons]
    omega
theorem scM_go {f : D → M D} {α : Type} {E : α → D} {g : α → C4} : ∀ (l : List α) (u : List C4), (∀ x ∈ l, f (E x) = M.pure (col (g x))) → u.length + l.length < 63 → fScM f (l.map E) (u.map quad) = M.pure (((l.map g).foldl dd u).map quad)
  | [], u, _, _ => rfl
  | x :: l, u, hf, hl => by
    rw [List.length_cons] at hl
    have h2 := dd_len u (g x)
    have ea : addS (u.map quad) (col (g x)) = some ((dd u (g x)).map quad) := by
      show (if (u.map quad).length + 1 < 64 then some (if quad (g x) ∈ u.map quad then u.map quad else u.map quad ++ [quad (g x)]) else none) = _
      rw [if_pos (by rw [List.length_map]; omega)]
      unfold dd
      by_cases h : g x ∈ u
      · rw [if_pos h, if_pos (List.mem_map.mpr ⟨_, h, rfl⟩)]
      · rw [if_neg h, if_neg (fun z => by
          obtain ⟨y, hy, e⟩ := List.mem_map.mp z
          rw [quad_inj e] at hy
          exact h hy), List.map_append]
        rfl
    rw [List.map_cons]
    show (noEx (f (E x))).bind _ = _
    rw [hf x List.mem_cons_self, noEx_pure, Pm.pure_bind, ea, opt_some, Pm.pure_bind, scM_go l _ (fun y hy => hf y (List.mem_cons_of_mem _ hy)) (by omega)]
    rfl
theorem srt4_quad {u : List C4} {ms : List C4} (hn : u.Nodup) (hc : ∀ c ∈ u, okc c) (hm : ∀ c, c ∈ u ↔ c ∈ ms) : srt4 (u.map quad) = (colsC ms).map quad := by
  have hp : (srt4 (u.map quad)).Perm (u.map quad) := List.mergeSort_perm _ _
  have h1 : (srt4 (u.map quad)).Pairwise fun a b => decide (cod4 a ≤ cod4 b) = true := List.pairwise_mergeSort (le := fun a b : List Int => decide (cod4 a ≤ cod4 b)) (fun a b c h1 h2 => by simp only [decide_eq_true_eq] at *; omega) (fun a b => by simp only [Bool.or_eq_true, decide_eq_true_eq]; omega) _
  have h2 : (srt4 (u.map quad)).Nodup := (hp.nodup_iff).mpr (List.pairwise_map.mpr (hn.imp fun h z => h (quad_inj z)))
  have h3 : ∀ a ∈ srt4 (u.map quad), ∃ c ∈ u, a = quad c := fun a ha => by
    obtain ⟨c, hc, e⟩ := List.mem_map.mp (hp.mem_iff.mp ha)
    exact ⟨c, hc, e.symm⟩
  refine inc_uniq ?_ (cols_inc ms) fun z => ?_
  · refine (h1.and h2).imp_of_mem fun {a b} ha hb ⟨q1, q2⟩ => ?_
    obtain ⟨c, hc1, rfl⟩ := h3 a ha
    obtain ⟨d, hd1, rfl⟩ := h3 b hb
    have q1 := of_decide_eq_true q1
    refine (ltL_code (B := 256) (a := quad c) (b := quad d) rfl (bd_quad (hc c hc1)) (bd_quad (hc d hd1))).mpr ?_
    have hne : cod4 (quad c) ≠ cod4 (quad d) := fun z => q2 (cod4_inj (ok4_quad (hc c hc1)) (ok4_quad (hc d hd1)) z)
    unfold cod4 at q1 hne
    omega
  · rw [hp.mem_iff, List.mem_map, List.mem_map]
    constructor
    · rintro ⟨c, h, rfl⟩; exact ⟨c, cols_mem ((hm c).mp h), rfl⟩
    · rintro ⟨c, h, rfl⟩; exact ⟨c, (hm c).mpr (cols_sub h), rfl⟩
theorem ssc_go {m : M (List D)} {f : D → M D} {α : Type} {E : α → D} {g : α → C4} {l : List α} (hm : m = M.pure (l.map E)) (hf : ∀ x ∈ l, f (E x) = M.pure (col (g x))) (hg : ∀ x ∈ l, okc (g x)) (hl : l.length < 63) : fSsc m f = M.pure (.lst ((colsC (l.map g)).map col)) := by
  unfold fSsc
  have e := scM_go (f := f) (E := E) (g := g) l [] hf (by simpa using hl)
  rw [hm, Pm.pure_bind, show ([] : List (List Int)) = ([] : List C4).map quad from rfl, e, Pm.pure_bind]
  have hn := fold_dd_nodup (l.map g) [] (by simp)
  have hlen := fold_dd_len (l.map g) []
  have hmm : ∀ c, c ∈ (l.map g).foldl dd [] ↔ c ∈ l.map g := fun c => by rw [fold_dd_mem]; simp
  generalize (l.map g).foldl dd [] = u at hn hlen hmm ⊢
  have hc : ∀ c ∈ u, okc c := fun c h => by
    obtain ⟨x, hx, rfl⟩ := List.mem_map.mp ((hmm c).mp h)
    exact hg x hx
  have e2 : out4 (u.map quad) = some (.lst ((colsC (l.map g)).map col)) := by
    unfold out4
    have hh : (u.map quad).all ok4 = true ∧ (u.map quad).Nodup ∧ (u.map quad).length < 64 := by
      refine ⟨?_, ?_, ?_⟩
      · rw [List.all_eq_true]
        intro a ha
        obtain ⟨c, h, rfl⟩ := List.mem_map.mp ha
        exact ok4_quad (hc c h)
      · exact List.pairwise_map.mpr (hn.imp fun h z => h (quad_inj z))
      · rw [List.length_map] at hlen ⊢
        simp at hlen
        omega
    rw [if_pos hh, srt4_quad hn hc hmm, List.map_map]
    try rfl
  rw [e2, opt_some]
def bxs (ps : List C4) (j : Nat) : List (List CN) := itB j [sortC (countC ps)]
theorem al_start {ps L : List C4} (h0 : ps ≠ []) (hL : L.Perm ps) : Al [sortC (countC ps)] [L] := .cons ((rel_count h0).of_perm (List.mergeSort_perm _ _) hL) .nil
theorem sm_start {ps : List C4} (h0 : ps ≠ []) (hl : ps.length ≤ 400) : smB [sortC (countC ps)] := fun B hB => by
  rw [List.mem_singleton.mp hB, rel_tot (B := sortC (countC ps)) ((rel_count h0).of_perm (List.mergeSort_perm _ _) (List.Perm.refl ps))]
  exact hl
theorem okc_start {ps : List C4} (h : ∀ p ∈ ps, okc p) : okcB [sortC (countC ps)] := fun B hB e he => by
  rw [List.mem_singleton.mp hB] at he
  exact sort_okc h e he
theorem bxs_ok {ps : List C4} (h0 : ps ≠ []) (hl : ps.length ≤ 400) (h : ∀ p ∈ ps, okc p) (j : Nat) : bxs ps j ≠ [] ∧ smB (bxs ps j) ∧ okcB (bxs ps j) ∧ (bxs ps j).length ≤ 1 + j := it_ok j (by simp) (sm_start h0 hl) (okc_start h)
theorem bxs_al {ps L : List C4} (h0 : ps ≠ []) (hl : ps.length ≤ 400) (hL : L.Perm ps) (j : Nat) : Al (bxs ps j) (itL j [L]) := (al_start h0 hL).it j (by simp) (sm_start h0 hl)
theorem Al.pos : ∀ {Bs : List (List CN)} {Ls : List (List C4)}, Al Bs Ls → ∀ B ∈ Bs, 0 < totN B
  | _, _, .nil, B, h => by cases h
  | _, _, .cons h t, B, hb => by
    rcases List.mem_cons.mp hb with rfl | hb
    · exact rel_pos h
    · exact t.pos B hb
theorem palette_eq (a b : D) {ps : List C4} (h0 : ps ≠ []) (hl : ps.length ≤ 400) (h : ∀ p ∈ ps, okc p) (j : Nat) (hj : j ≤ 50) : m_palette_for [.tup [a, b, .tup (ps.map col)], .int ((1 + j : Nat) : Int)] = M.pure (.tup ((colsC ((bxs ps j).map meanB)).map col)) := by
  obtain ⟨b1, b2, b3, b4⟩ := bxs_ok h0 hl h j
  have hal := bxs_al h0 hl (List.Perm.refl ps) j
  obtain ⟨n, hn⟩ : ∃ n, wF = n + 1000 := ⟨99000, wF_eq⟩
  show p_palette_for _ _ = _
  unfold p_palette_for
  rw [call1 m_colours_of, colours_eq a b (by omega)]
  show fWhileB (c0_palette_for (.int ((1 + j : Nat) : Int))) (l0_palette_for (.int ((1 + j : Nat) : Int))) wF (.lst ([sortC (countC ps)].map bxB)) _ = _
  rw [hn, loopB (many := 1 + j) (by omega) _ j (n + 1000) (al_start h0 (List.Perm.refl ps)) (by simp) (sm_start h0 hl) (by simp) (by omega)]
  show fCB tupF (fCons (fSsc (fItems (M.pure (.lst ((bxs ps j).map bxB)))) _) fNil) = _
  rw [ssc_go (E := bxB) (g := meanB) (l := bxs ps j) (by rw [f_items, i_lst, opt_some]) (fun B hB => by
    rw [call1 m_mean_of]
    have := b2 B hB
    exact mean_eq (hal.pos B hB) (by omega)) (fun B hB => mean_ok (b3 B hB) (hal.pos B hB)) (by omega)]
  rfl
end Rp
end
noncomputable section
namespace Pm
open PySem

abbrev Pl := Int × Int
def inB (w h : Nat) (p : Pl) : Prop := 0 ≤ p.1 ∧ p.1 < w ∧ 0 ≤ p.2 ∧ p.2 < h
instance (w h : Nat) (p : Pl) : Decidable (inB w h p) := by unfold inB; exact inferInstance
def nb (p : Pl) : List Pl := [(p.1 + 1, p.2), (p.1 - 1, p.2), (p.1, p.2 + 1), (p.1, p.2 - 1)]
theorem nb_sym {p q : Pl} (h : q ∈ nb p) : p ∈ nb q := by
  obtain ⟨a, b⟩ := p
  obtain ⟨x, y⟩ := q
  simp only [nb, List.mem_cons, Prod.mk.injEq, List.not_mem_nil, or_false] at h ⊢
  omega
inductive Rch (S : Pl → Bool) (p : Pl) : Pl → Prop
  | refl : Rch S p p
  | step {q r : Pl} : Rch S p q → r ∈ nb q → S r = true → Rch S p r
theorem Rch.trans {S : Pl → Bool} {p q r : Pl} (h : Rch S p q) (h' : Rch S q r) : Rch S p r := by
  induction h' with
  | refl => exact h
  | step _ a b ih => exact .step ih a b
theorem Rch.ok {S : Pl → Bool} {p q : Pl} (hp : S p = true) (h : Rch S p q) : S q = true := by
  cases h with
  | refl => exact hp
  | step _ _ a => exact a
theorem Rch.symm {S : Pl → Bool} {p q : Pl} (hp : S p = true) (h : Rch S p q) : Rch S q p := by
  induction h with
  | refl => exact .refl
  | step h a b ih => exact (Rch.step .refl (nb_sym a) (h.ok hp)).trans ih
theorem Rch.mono {S T : Pl → Bool} {p q : Pl} (hs : ∀ x, S x = true → T x = true) (h : Rch S p q) : Rch T p q := by
  induction h with
  | refl => exact .refl
  | step _ a b ih => exact .step ih a (hs _ b)

structure FI (S : Pl → Bool) (p0 : Pl) (st : List Pl × List Pl) : Prop where
  nd : st.1.Nodup
  sub : ∀ q ∈ st.2, q ∈ st.1
  mem0 : p0 ∈ st.1
  rch : ∀ q ∈ st.1, Rch S p0 q
  cl : ∀ q ∈ st.1, q ∉ st.2 → ∀ s ∈ nb q, S s = true → s ∈ st.1
theorem len_of_sub {α : Type} [DecidableEq α] : ∀ {l m : List α}, l.Nodup → (∀ x ∈ l, x ∈ m) → l.length ≤ m.length
  | [], m, _, _ => Nat.zero_le _
  | x :: l, m, hn, h => by
    obtain ⟨h1, h2⟩ := List.nodup_cons.mp hn
    have hx := h x List.mem_cons_self
    have := len_of_sub (l := l) (m := m.erase x) h2 fun y hy => (List.mem_erase_of_ne (fun z => h1 (by rw [← z]; exact hy))).mpr (h y (List.mem_cons_of_mem _ hy))
    rw [List.length_erase_of_mem hx] at this
    have : 0 < m.length := List.length_pos_of_mem hx
    rw [List.length_cons]; omega

def kp (p : Pl) : List L2.Key := [.inl p.1, .inl p.2]
section
variable {w h : Nat} (c : Nat → Nat → C4)
def inS (w h : Nat) (c : Nat → Nat → C4) (k : C4) (q : Pl) : Bool := decide (inB w h q) && decide (c q.1.toNat q.2.toNat = k)
end
end Pm
noncomputable section
namespace Pm
open PySem


section
variable {α : Type}
open Classical in
def labStep (R : α → α → Prop) (st : (α → Option Nat) × Nat) (p : α) : (α → Option Nat) × Nat := if (st.1 p).isSome then st else (fun q => if R p q then some st.2 else st.1 q, st.2 + 1)
def labRun (R : α → α → Prop) (ps : List α) : (α → Option Nat) × Nat := ps.foldl (labStep R) (fun _ => none, 0)
def labOf (R : α → α → Prop) (ps : List α) (p : α) : Nat := ((labRun R ps).1 p).getD 0
end
section
variable {w h : Nat} (c : Nat → Nat → C4)
def Sam (w h : Nat) (c : Nat → Nat → C4) (p q : Pl) : Prop := inB w h p ∧ Rch (inS w h c (c p.1.toNat p.2.toNat)) p q
theorem inS_iff {k : C4} {q : Pl} : inS w h c k q = true ↔ inB w h q ∧ c q.1.toNat q.2.toNat = k := by
  unfold inS; rw [Bool.and_eq_true, decide_eq_true_eq, decide_eq_true_eq]
theorem inS_self {p : Pl} (hp : inB w h p) : inS w h c (c p.1.toNat p.2.toNat) p = true := (inS_iff c).mpr ⟨hp, rfl⟩
theorem Sam.inB' {c : Nat → Nat → C4} {p q : Pl} (z : Sam w h c p q) : inB w h q := ((inS_iff c).mp (z.2.ok (inS_self c z.1))).1
theorem Sam.col {c : Nat → Nat → C4} {p q : Pl} (z : Sam w h c p q) : c q.1.toNat q.2.toNat = c p.1.toNat p.2.toNat := ((inS_iff c).mp (z.2.ok (inS_self c z.1))).2
theorem Sam.refl {c : Nat → Nat → C4} {p : Pl} (hp : inB w h p) : Sam w h c p p := ⟨hp, .refl⟩
theorem Sam.symm {c : Nat → Nat → C4} {p q : Pl} (z : Sam w h c p q) : Sam w h c q p := ⟨z.inB', by rw [z.col]; exact z.2.symm (inS_self c z.1)⟩
theorem Sam.trans {c : Nat → Nat → C4} {p q r : Pl} (z : Sam w h c p q) (y : Sam w h c q r) : Sam w h c p r := ⟨z.1, z.2.trans (by have := y.2; rw [z.col] at this; exact this)⟩
structure NumI (w h : Nat) (c : Nat → Nat → C4) (K : List Pl) (st : (Pl → Option Nat) × Nat) : Prop where
  nd : K.Nodup
  sub : ∀ q ∈ K, inB w h q
  mem : ∀ q, (st.1 q).isSome ↔ q ∈ K
  cl : ∀ q r, q ∈ K → Sam w h c q r → r ∈ K
end

section
variable {α : Type} {R : α → α → Prop}
structure LabI (R : α → α → Prop) (ps : List α) (st : (α → Option Nat) × Nat) : Prop where
  dom : ∀ q, (st.1 q).isSome ↔ ∃ p ∈ ps, R p q
  lt : ∀ q k, st.1 q = some k → k < st.2
  eq : ∀ p q i j, st.1 p = some i → st.1 q = some j → (i = j ↔ R p q)
  on : ∀ k, k < st.2 → ∃ p ∈ ps, st.1 p = some k
theorem LabI.step (hs : ∀ p q, R p q → R q p) (ht : ∀ p q r, R p q → R q r → R p r) {ps : List α} {st : (α → Option Nat) × Nat} {p : α} (I : LabI R ps st) (hp : R p p) : LabI R (ps ++ [p]) (labStep R st p) := by
  unfold labStep
  by_cases z : (st.1 p).isSome
  · rw [if_pos z]
    obtain ⟨p0, hp0, h0⟩ := (I.dom p).mp z
    refine ⟨fun q => (I.dom q).trans ⟨fun ⟨a, b, d⟩ => ⟨a, List.mem_append_left _ b, d⟩, fun ⟨a, b, d⟩ => ?_⟩, I.lt, I.eq, fun k hk => let ⟨a, b, d⟩ := I.on k hk; ⟨a, List.mem_append_left _ b, d⟩⟩
    rcases List.mem_append.mp b with b | b
    · exact ⟨a, b, d⟩
    · rw [List.mem_singleton] at b
      subst b
      exact ⟨p0, hp0, ht _ _ _ h0 d⟩
  · rw [if_neg z]
    have hno : ∀ q, R p q → st.1 q = none := fun q hq => by
      cases e : st.1 q with
      | none => rfl
      | some k =>
        obtain ⟨p0, hp0, h0⟩ := (I.dom q).mp (by rw [e]; rfl)
        exact absurd ((I.dom p).mpr ⟨p0, hp0, ht _ _ _ h0 (hs _ _ hq)⟩) z
    refine ⟨fun q => ?_, fun q k e => ?_, fun a b i j ea eb => ?_, fun k hk => ?_⟩
    · dsimp only
      by_cases y : R p q
      · rw [if_pos y]; exact ⟨fun _ => ⟨p, by simp, y⟩, fun _ => rfl⟩
      · rw [if_neg y, I.dom q]
        exact ⟨fun ⟨a, b, d⟩ => ⟨a, List.mem_append_left _ b, d⟩, fun ⟨a, b, d⟩ => by
          rcases List.mem_append.mp b with b | b
          · exact ⟨a, b, d⟩
          · rw [List.mem_singleton] at b; subst b; exact absurd d y⟩
    · dsimp only at e ⊢
      by_cases y : R p q
      · rw [if_pos y] at e; cases e; omega
      · rw [if_neg y] at e; have := I.lt q k e; omega
    · dsimp only at ea eb
      by_cases ya : R p a <;> by_cases yb : R p b
      · rw [if_pos ya] at ea; rw [if_pos yb] at eb; cases ea; cases eb
        exact ⟨fun _ => ht _ _ _ (hs _ _ ya) yb, fun _ => rfl⟩
      · rw [if_pos ya] at ea; rw [if_neg yb] at eb; cases ea
        have := I.lt b j eb
        exact ⟨fun e => by omega, fun e => absurd (ht _ _ _ ya e) yb⟩
      · rw [if_neg ya] at ea; rw [if_pos yb] at eb; cases eb
        have := I.lt a i ea
        exact ⟨fun e => by omega, fun e => absurd (ht _ _ _ yb (hs _ _ e)) ya⟩
      · rw [if_neg ya] at ea; rw [if_neg yb] at eb
        exact I.eq a b i j ea eb
    · dsimp only at hk ⊢
      by_cases e : k = st.2
      · exact ⟨p, by simp, by rw [if_pos hp, e]⟩
      · obtain ⟨a, b, d⟩ := I.on k (by omega)
        exact ⟨a, List.mem_append_left _ b, by rw [if_neg fun y => by rw [hno a y] at d; cases d]; exact d⟩
theorem LabI.run (hs : ∀ p q, R p q → R q p) (ht : ∀ p q r, R p q → R q r → R p r) (ps : List α) (hr : ∀ p ∈ ps, R p p) : LabI R ps (labRun R ps) := by
  have gen : ∀ (qs ps : List α) (st : (α → Option Nat) × Nat), LabI R ps st → (∀ p ∈ qs, R p p) → LabI R (ps ++ qs) (qs.foldl (labStep R) st) := by
    intro qs
    induction qs with
    | nil => intro ps st I _; rw [List.append_nil]; exact I
    | cons q qs ih =>
      intro ps st I hq
      have := ih (ps ++ [q]) _ (I.step hs ht (hq q List.mem_cons_self)) fun x hx => hq x (List.mem_cons_of_mem _ hx)
      rwa [List.append_assoc] at this
  exact gen ps [] _ ⟨fun q => by simp, fun q k e => by simp at e, fun p q i j e => by simp at e, fun k hk => by simp at hk⟩ hr
def labN (R : α → α → Prop) (ps : List α) : Nat := (labRun R ps).2
structure Eqv (R : α → α → Prop) (ps : List α) : Prop where
  rf : ∀ p ∈ ps, R p p
  sy : ∀ p q, R p q → R q p
  tr : ∀ p q r, R p q → R q r → R p r
theorem Eqv.run {ps : List α} (e : Eqv R ps) : LabI R ps (labRun R ps) := LabI.run e.sy e.tr ps e.rf
theorem Eqv.some {ps : List α} (e : Eqv R ps) {p : α} (hp : p ∈ ps) : (labRun R ps).1 p = some (labOf R ps p) := by
  have := (e.run.dom p).mpr ⟨p, hp, e.rf p hp⟩
  unfold labOf
  cases q : (labRun R ps).1 p with
  | none => rw [q] at this; cases this
  | some k => rfl
theorem Eqv.on {ps : List α} (e : Eqv R ps) {k : Nat} (hk : k < labN R ps) : ∃ p ∈ ps, labOf R ps p = k := by
  obtain ⟨p, hp, h⟩ := e.run.on k hk
  rw [e.some hp] at h
  exact ⟨p, hp, Option.some.inj h⟩
end


section
variable {w h : Nat} (c : Nat → Nat → C4)

open Classical in
end
end Pm
noncomputable section
namespace Pm
open PySem
end Pm
namespace Rc
open PySem Pm

end Rc
noncomputable section
namespace Pm
open PySem
end Pm
namespace Rf
open PySem Pm

def ptI (w : Nat) (s : Int) : Pl := (s % w, s / w)
def spI (w : Nat) (p : Pl) : Int := p.2 * w + p.1
def colP (c : Nat → Nat → C4) (p : Pl) : C4 := c p.1.toNat p.2.toNat
theorem sp_pt (w : Nat) (s : Int) : spI w (ptI w s) = s := by
  unfold spI ptI
  have := Int.mul_ediv_add_emod s w
  rw [Int.mul_comm] at this
  exact this
theorem pt_uniq {w : Nat} {s x y : Int} (hw : 1 ≤ w) (e : s = y * w + x) (h0 : 0 ≤ x) (h1 : x < w) : ptI w s = (x, y) := by
  have := (Int.ediv_emod_unique (a := s) (b := (w : Int)) (r := x) (q := y) (by omega)).mpr ⟨by rw [Int.mul_comm]; omega, h0, h1⟩
  unfold ptI
  rw [this.1, this.2]
theorem pt_sp {w h : Nat} {p : Pl} (hw : 1 ≤ w) (hp : inB w h p) : ptI w (spI w p) = p := pt_uniq hw rfl hp.1 hp.2.1
theorem pt_in {w h : Nat} {s : Int} (hw : 1 ≤ w) (h0 : 0 ≤ s) (h1 : s < ((w * h : Nat) : Int)) : inB w h (ptI w s) :=
  ⟨Int.emod_nonneg _ (by omega), Int.emod_lt_of_pos _ (by omega), Int.ediv_nonneg h0 (by omega), Int.ediv_lt_of_lt_mul (by omega) (by rw [Int.mul_comm]; push_cast at h1; exact h1)⟩
theorem sp_in {w h : Nat} {p : Pl} (hp : inB w h p) : 0 ≤ spI w p ∧ spI w p < ((w * h : Nat) : Int) := by
  obtain ⟨x, y⟩ := p
  obtain ⟨h1, h2, h3, h4⟩ := hp
  obtain ⟨a, rfl⟩ := Int.eq_ofNat_of_zero_le h1
  obtain ⟨b, rfl⟩ := Int.eq_ofNat_of_zero_le h3
  have h5 : a < w := by simpa using h2
  have h6 : b + 1 ≤ h := by have : (b : Int) < h := h4; omega
  have h7 : (b + 1) * w ≤ h * w := Nat.mul_le_mul_right w h6
  rw [Nat.succ_mul, Nat.mul_comm h w] at h7
  have e : spI w ((a : Int), (b : Int)) = ((b * w + a : Nat) : Int) := by unfold spI; push_cast; rfl
  rw [e]
  omega
def nxS (w : Nat) (s : Int) : List Int := [s - w, s + w] ++ (if 0 < s % w then [s - 1] else []) ++ (if s % w < w - 1 then [s + 1] else [])
theorem mem_nx {w h : Nat} (hw : 1 ≤ w) {s z : Int} : (z ∈ nxS w s ∧ 0 ≤ z ∧ z < ((w * h : Nat) : Int)) ↔ ∃ q ∈ nb (ptI w s), inB w h q ∧ z = spI w q := by
  have hs := sp_pt w s
  have b0 : 0 ≤ s % w := Int.emod_nonneg _ (by omega)
  have b1 : s % w < w := Int.emod_lt_of_pos _ (by omega)
  have e0 : s = (s / w) * w + s % w := by have := sp_pt w s; unfold spI ptI at this; exact this.symm
  have m1 : (s / w + 1) * w = (s / w) * w + w := by rw [Int.add_mul, Int.one_mul]
  have m2 : (s / w - 1) * w = (s / w) * w - w := by rw [Int.sub_mul, Int.one_mul]
  constructor
  · rintro ⟨hz, h0, h1⟩
    refine ⟨ptI w z, ?_, pt_in hw h0 h1, (sp_pt w z).symm⟩
    unfold nxS at hz
    simp only [List.mem_append, List.mem_cons, List.not_mem_nil, or_false] at hz
    unfold nb ptI
    simp only [List.mem_cons, List.not_mem_nil, or_false]
    rcases hz with ((hz | hz) | hz) | hz
    · have := pt_uniq (s := z) (x := s % w) (y := s / w - 1) hw (by omega) b0 b1
      unfold ptI at this
      exact .inr (.inr (.inr this))
    · have := pt_uniq (s := z) (x := s % w) (y := s / w + 1) hw (by omega) b0 b1
      unfold ptI at this
      exact .inr (.inr (.inl this))
    · by_cases g : 0 < s % w
      · rw [if_pos g, List.mem_singleton] at hz
        have := pt_uniq (s := z) (x := s % w - 1) (y := s / w) hw (by omega) (by omega) (by omega)
        unfold ptI at this
        exact .inr (.inl this)
      · rw [if_neg g] at hz; cases hz
    · by_cases g : s % w < w - 1
      · rw [if_pos g, List.mem_singleton] at hz
        have := pt_uniq (s := z) (x := s % w + 1) (y := s / w) hw (by omega) (by omega) (by omega)
        unfold ptI at this
        exact .inl this
      · rw [if_neg g] at hz; cases hz
  · rintro ⟨q, hq, hi, rfl⟩
    refine ⟨?_, sp_in hi⟩
    obtain ⟨i1, i2, i3, i4⟩ := hi
    unfold nb ptI at hq
    simp only [List.mem_cons, List.not_mem_nil, or_false] at hq
    unfold nxS
    simp only [List.mem_append, List.mem_cons, List.not_mem_nil, or_false]
    rcases hq with rfl | rfl | rfl | rfl <;> unfold spI <;> dsimp only at i1 i2 i3 i4 ⊢
    · right
      rw [if_pos (by omega), List.mem_singleton]; omega
    · left; right
      rw [if_pos (by omega), List.mem_singleton]; omega
    · left; left; right; omega
    · left; left; left; omega
section
variable {w h : Nat} (c : Nat → Nat → C4)
def nxF (w h : Nat) (c : Nat → Nat → C4) (k : C4) (s : Int) : List Int := (nxS w s).filter fun z => decide (0 ≤ z ∧ z < ((w * h : Nat) : Int)) && decide (colP c (ptI w z) = k)
theorem mem_nxF (hw : 1 ≤ w) {k : C4} {s z : Int} : z ∈ nxF w h c k s ↔ ∃ q ∈ nb (ptI w s), inS w h c k q = true ∧ z = spI w q := by
  unfold nxF
  rw [List.mem_filter, Bool.and_eq_true, decide_eq_true_eq, decide_eq_true_eq]
  constructor
  · rintro ⟨h1, h2, h3⟩
    obtain ⟨q, hq, hi, rfl⟩ := (mem_nx hw).mp ⟨h1, h2⟩
    rw [pt_sp hw hi] at h3
    exact ⟨q, hq, (inS_iff c).mpr ⟨hi, h3⟩, rfl⟩
  · rintro ⟨q, hq, hS, rfl⟩
    obtain ⟨hi, hk⟩ := (inS_iff c).mp hS
    obtain ⟨h1, h2⟩ := (mem_nx hw).mpr ⟨q, hq, hi, rfl⟩
    exact ⟨h1, h2, by rw [pt_sp hw hi]; exact hk⟩
structure AI (w h : Nat) (c : Nat → Nat → C4) (sp : Int) (F : List Int) : Prop where
  inc : F.Pairwise (· < ·)
  on : sp ∈ F
  rng : ∀ s ∈ F, 0 ≤ s ∧ s < ((w * h : Nat) : Int)
  rch : ∀ s ∈ F, Rch (inS w h c (colP c (ptI w sp))) (ptI w sp) (ptI w s)
def aStep (w h : Nat) (c : Nat → Nat → C4) (sp : Int) (F : List Int) : List Int := srtI (F ++ F.flatMap (nxF w h c (colP c (ptI w sp))))
theorem mem_aStep {sp z : Int} {F : List Int} : z ∈ aStep w h c sp F ↔ z ∈ F ∨ ∃ s ∈ F, z ∈ nxF w h c (colP c (ptI w sp)) s := by
  unfold aStep
  rw [srtI_mem, List.mem_append, List.mem_flatMap]
theorem AI.len {sp : Int} {F : List Int} (I : AI w h c sp F) : F.length ≤ w * h := by
  have := len_of_sub (m := (List.range (w * h)).map fun (k : Nat) => (k : Int)) (I.inc.imp fun z => Int.ne_of_lt z) fun s hs => List.mem_map.mpr ⟨s.toNat, List.mem_range.mpr (by have := I.rng s hs; omega), by have := I.rng s hs; omega⟩
  simpa using this
theorem AI.step (hw : 1 ≤ w) {sp : Int} {F : List Int} (I : AI w h c sp F) : AI w h c sp (aStep w h c sp F) := by
  refine ⟨srtI_inc _, (mem_aStep c).mpr (.inl I.on), fun s hs => ?_, fun s hs => ?_⟩
  · rcases (mem_aStep c).mp hs with a | ⟨t, ht, a⟩
    · exact I.rng s a
    · obtain ⟨q, _, hS, rfl⟩ := (mem_nxF c hw).mp a
      exact sp_in ((inS_iff c).mp hS).1
  · rcases (mem_aStep c).mp hs with a | ⟨t, ht, a⟩
    · exact I.rch s a
    · obtain ⟨q, hq, hS, rfl⟩ := (mem_nxF c hw).mp a
      rw [pt_sp hw ((inS_iff c).mp hS).1]
      exact .step (I.rch t ht) hq hS
end
end Rf
noncomputable section
namespace Rf
open PySem Pm

section
variable {w h : Nat} (c : Nat → Nat → C4)
def SamI (w h : Nat) (c : Nat → Nat → C4) (s t : Int) : Prop := (0 ≤ s ∧ s < ((w * h : Nat) : Int)) ∧ (0 ≤ t ∧ t < ((w * h : Nat) : Int)) ∧ Sam w h c (ptI w s) (ptI w t)
structure NumJ (w h : Nat) (c : Nat → Nat → C4) (K : List Int) (st : (Int → Option Nat) × Nat) : Prop where
  nd : K.Nodup
  sub : ∀ s ∈ K, 0 ≤ s ∧ s < ((w * h : Nat) : Int)
  mem : ∀ q, (st.1 q).isSome ↔ q ∈ K
  cl : ∀ q r, q ∈ K → SamI w h c q r → r ∈ K

end
end Rf
noncomputable section
namespace Pm
open PySem
def p_turned (picture_ : D) : M D :=
  (M.bind (M.pure picture_) fun it1_ => (fU3 it1_ fun width_ height_ cells_ => 
  (fTup (fCons (M.pure height_) (fCons (M.pure width_) (fCons (fCB tupF (fCons (fLC2 (fRng (fCons (M.pure width_) fNil)) fun x_ => (fIn (fRng (fCons (fBin subD (M.pure height_) (M.pure (D.int 1))) (fCons (fNeg (M.pure (D.int 1))) (fCons (fNeg (M.pure (D.int 1))) fNil)))) fun y_ => (fBin ixD (M.pure cells_) (fBin addD (fBin mulD (M.pure y_) (M.pure width_)) (M.pure x_))))) fNil)) fNil))))))
def m_turned : Mf := fun ds => match ds with
  | [picture_] => p_turned picture_
  | _ => M.bad
def p_mirrored (picture_ : D) : M D :=
  (fCall m_of_rows (fCons (fLC (fItems (fCall m_rows_of (fCons (M.pure picture_) fNil))) fun row_ => (fRev (M.pure row_))) fNil))
def m_mirrored : Mf := fun ds => match ds with
  | [picture_] => p_mirrored picture_
  | _ => M.bad

theorem rng_down {h : Nat} (hh : 1 ≤ h ∧ h ≤ 1000) : fRng (fCons (fBin subD (M.pure (.int (h : Int))) (M.pure (D.int 1))) (fCons (fNeg (M.pure (D.int 1))) (fCons (fNeg (M.pure (D.int 1))) fNil))) = M.pure ((List.range h).map fun (k : Nat) => D.int (((h - 1 - k : Nat) : Nat) : Int)) := by
  show M.opt (rngC ((h : Int) - 1) (-1) (-1)) = _
  unfold rngC
  have e2 : Builtin.Range.rangeSize ((h : Int) - 1) (-1) (-1) = (h : Int) := by
    have := PySem.W.rangeSize_downNat ((h : Int) - 1) (-1)
    rw [this]; omega
  rw [if_pos ⟨by omega, by decide, PySem.W.small_down (by omega) (by omega) (by omega) (by omega), by rw [e2, sizeIs]; omega⟩, e2, opt_some]
  congr 1
  refine List.map_congr_left fun k hk => ?_
  have := List.mem_range.mp hk
  congr 1
  simp at this
  omega
theorem mul_nn {a b : Nat} (h : a ≤ 1000000) (h2 : b ≤ 1000000) : fBin mulD (M.pure (.int (a : Int))) (M.pure (.int (b : Int))) = M.pure (.int ((a * b : Nat) : Int)) := by
  rw [f_bin, o_mulR (by omega) (by omega), opt_some]; push_cast; rfl
theorem add_nn (a b : Nat) : fBin addD (M.pure (.int (a : Int))) (M.pure (.int (b : Int))) = M.pure (.int ((a + b : Nat) : Int)) := by
  rw [f_bin, o_add, opt_some]; push_cast; rfl
theorem turnedF {w h : Nat} (hw : 1 ≤ w ∧ w ≤ 99) (hh : 1 ≤ h ∧ h ≤ 99) (c : Nat → Nat → D) : m_turned [picF w h c] = M.pure (picF h w fun i j => c j (h - 1 - i)) := by
  have hz : w * h ≤ 99 * 99 := Nat.mul_le_mul hw.2 hh.2
  show p_turned _ = _
  unfold p_turned
  rw [Pm.pure_bind, show picF w h c = .tup [.int w, .int h, .tup (gridL w h c).flatten] from rfl, f_u3, rng_nat (b := w) (by omega), rng_down ⟨hh.1, by omega⟩, f_lc2, cat_of (E := fun (k : Nat) => D.int k) (l := List.range w) (g := fun x => (List.range h).map fun k => c x (h - 1 - k)) (fun x hx => ?_), Pm.pure_bind]
  · have e : ((List.range w).map fun x => (List.range h).map fun k => c x (h - 1 - k)).flatten = (gridL h w fun i j => c j (h - 1 - i)).flatten := rfl
    rw [e, if_pos (by rw [cells_len, sizeIs, Nat.mul_comm]; omega)]
    rfl
  · rw [f_in, map_of (E := fun (k : Nat) => D.int (((h - 1 - k : Nat) : Nat) : Int)) (g := fun k => c x (h - 1 - k)) (fun k hk => ?_)]
    have hk := List.mem_range.mp hk
    have hx := List.mem_range.mp hx
    rw [mul_nn (a := h - 1 - k) (b := w) (by omega) (by omega), add_nn, f_bin, ix_tup]
    have := at_cellF (h := h) c (x := x) (y := h - 1 - k) hx (by omega)
    rw [show (((h - 1 - k) * w + x : Nat) : Int) = (((h - 1 - k : Nat) : Int)) * w + x from by push_cast; rfl, this]; rfl
theorem mirroredF {w h : Nat} (hw : 1 ≤ w ∧ w ≤ 99) (hh : 1 ≤ h ∧ h ≤ 99) (c : Nat → Nat → D) : m_mirrored [picF w h c] = M.pure (picF w h fun i j => c (w - 1 - i) j) := by
  show p_mirrored _ = _
  unfold p_mirrored
  rw [call1 m_rows_of, rowsF c (by omega) (by omega), f_items, i_lst, opt_some, f_lc, map_of (E := D.tup) (g := fun r => D.tup r.reverse) (fun r _ => rfl), Pm.pure_bind, call1 m_of_rows]
  have e : (gridL w h c).map (fun r => D.tup r.reverse) = (gridL w h fun i j => c (w - 1 - i) j).map D.tup := by
    unfold gridL
    rw [List.map_map, List.map_map]
    refine List.map_congr_left fun y _ => ?_
    show D.tup ((List.range w).map fun x => c x y).reverse = D.tup ((List.range w).map fun i => c (w - 1 - i) y)
    congr 1
    refine List.ext_getElem? fun k => ?_
    by_cases hk : k < w
    · rw [List.getElem?_reverse (by simpa using hk), List.getElem?_map, List.getElem?_map, List.length_map, List.length_range, List.getElem?_range hk, List.getElem?_range (by omega)]; rfl
    · rw [List.getElem?_eq_none (by simp; omega), List.getElem?_eq_none (by simp; omega)]
  rw [e]
  exact madeF (E := D.tup) (fun _ => rfl) (fun _ => rfl) _ ⟨hw.1, by omega⟩ ⟨hh.1, by omega⟩

theorem rnd_self {a b : Int} (hb : 0 < b) : rnd (b * a) b = a := by
  unfold rnd
  rw [show 2 * (b * a) + b = b + a * (2 * b) by rw [Int.mul_left_comm a, Int.mul_comm a b]; omega, Int.add_mul_ediv_right _ _ (by omega), Int.ediv_eq_zero_of_lt (by omega) (by omega), Int.zero_add]
end Pm
noncomputable section
namespace Rp
open PySem Pm Rn

theorem sq_nn (a : Int) : 0 ≤ a * a := by
  rcases Int.le_total 0 a with h | h
  · exact Int.mul_nonneg h h
  · exact Int.mul_nonneg_of_nonpos_of_nonpos h h
theorem sq_zero {a b : Int} (h : (a - b) * (a - b) = 0) : a = b := by
  rcases Int.mul_eq_zero.mp h with z | z <;> omega
theorem dst_zero {p q : C4} (h : dstC p q ≤ 0) : p = q := by
  have h1 := sq_nn (p.1 - q.1)
  have h2 := sq_nn (p.2.1 - q.2.1)
  have h3 := sq_nn (p.2.2.1 - q.2.2.1)
  have h4 := sq_nn (p.2.2.2 - q.2.2.2)
  unfold dstC at h
  exact Prod.ext (sq_zero (by omega)) (Prod.ext (sq_zero (by omega)) (Prod.ext (sq_zero (by omega)) (sq_zero (by omega))))
theorem dst_self (p : C4) : dstC p p = 0 := by unfold dstC; simp
theorem sq_sym (a b : Int) : (a - b) * (a - b) = (b - a) * (b - a) := by
  rw [← Int.neg_mul_neg, Int.neg_sub]
theorem dst_sym (p q : C4) : dstC p q = dstC q p := by
  unfold dstC
  rw [sq_sym p.1, sq_sym p.2.1, sq_sym p.2.2.1, sq_sym p.2.2.2]
theorem near_le {ps : List C4} (h0 : ps ≠ []) (q : C4) : ∀ p ∈ ps, dstC (nearC ps q) q ≤ dstC p q := fun p hp => by
  obtain ⟨i, hi, e⟩ := List.getElem_of_mem hp
  have h := (near_is h0 q).2 i hi
  have e2 : dk ps q i = dstC p q := by
    unfold dk
    rw [List.getD_eq_getElem?_getD, List.getElem?_eq_getElem hi, e]; rfl
  have e3 : dk ps q (nearK ps q) = dstC (nearC ps q) q := rfl
  rw [e2, e3] at h
  omega
theorem near_self {ps : List C4} {q : C4} (h : q ∈ ps) : nearC ps q = q := by
  have h0 : ps ≠ [] := fun z => by rw [z] at h; cases h
  have := near_le h0 q q h
  rw [dst_self] at this
  exact dst_zero this
def fltS (ps qs : List C4) : Int := ((ps.zip qs).map fun p => dstC p.1 p.2).sum
theorem flt_map (f : C4 → C4) : ∀ ps : List C4, fltS ps (ps.map f) = (ps.map fun p => dstC p (f p)).sum
  | [] => rfl
  | p :: ps => by
    have := flt_map f ps
    unfold fltS at this ⊢
    rw [List.map_cons, List.zip_cons_cons, List.map_cons, List.sum_cons, this, List.map_cons, List.sum_cons]
theorem flt_sym : ∀ ps qs : List C4, fltS ps qs = fltS qs ps
  | [], [] => rfl
  | [], q :: qs => rfl
  | p :: ps, [] => rfl
  | p :: ps, q :: qs => by
    have := flt_sym ps qs
    unfold fltS at this ⊢
    rw [List.zip_cons_cons, List.map_cons, List.sum_cons, List.zip_cons_cons, List.map_cons, List.sum_cons, this, dst_sym]
theorem sum_le {α : Type} {f g : α → Int} : ∀ {l : List α}, (∀ x ∈ l, f x ≤ g x) → (l.map f).sum ≤ (l.map g).sum
  | [], _ => Int.le_refl _
  | x :: l, h => by
    have h1 := h x List.mem_cons_self
    have h2 := sum_le (l := l) fun y hy => h y (List.mem_cons_of_mem _ hy)
    rw [List.map_cons, List.sum_cons, List.map_cons, List.sum_cons]
    omega
theorem flt_self (ps : List C4) : fltS ps ps = 0 := by
  have := flt_map id ps
  rw [List.map_id] at this
  rw [this]
  have e : (ps.map fun p => dstC p (id p)) = List.replicate ps.length 0 := by
    rw [List.eq_replicate_iff]
    exact ⟨List.length_map _, fun d hd => by obtain ⟨p, _, rfl⟩ := List.mem_map.mp hd; exact dst_self p⟩
  rw [e, sum_rep]
  simp
theorem flt_more (ps : List C4) {pl more : List C4} (h0 : pl ≠ []) (h : ∀ p ∈ pl, p ∈ more) : fltS ps (ps.map (nearC more)) ≤ fltS ps (ps.map (nearC pl)) := by
  have h1 : more ≠ [] := fun z => by
    have := h _ (List.head_mem h0)
    rw [z] at this
    cases this
  rw [flt_map, flt_map]
  refine sum_le fun p _ => ?_
  rw [dst_sym p, dst_sym p]
  exact near_le h1 p _ (h _ (near_mem h0 p))

theorem get_in {Bs : List (List CN)} (hne : Bs ≠ []) : idxM (toldB Bs) < Bs.length ∧ Bs.getD (idxM (toldB Bs)) [] ∈ Bs := by
  have tne : toldB Bs ≠ [] := fun z => hne (List.map_eq_nil_iff.mp z)
  obtain ⟨h1, _⟩ := idxM_spec tne
  have h1' : idxM (toldB Bs) < Bs.length := by unfold toldB at h1 ⊢; rw [List.length_map] at h1; exact h1
  exact ⟨h1', List.mem_of_getElem? (i := idxM (toldB Bs)) (by rw [List.getD_eq_getElem?_getD, List.getElem?_eq_getElem h1']; rfl)⟩
theorem step_flat {Bs : List (List CN)} (hne : Bs ≠ []) : (stepB Bs).flatten.Perm Bs.flatten := by
  obtain ⟨h1, _⟩ := get_in hne
  unfold stepB
  generalize idxM (toldB Bs) = i at h1 ⊢
  have e : Bs.getD i [] = Bs[i] := by rw [List.getD_eq_getElem?_getD, List.getElem?_eq_getElem h1]; rfl
  have e2 : Bs.take i ++ (Bs[i] :: Bs.drop (i + 1)) = Bs := by rw [List.getElem_cons_drop, List.take_append_drop]
  rw [e]
  have hc : (cutB Bs[i]).flatten.Perm Bs[i] := by
    unfold cutB
    rw [List.flatten_cons, List.flatten_cons, List.flatten_nil, List.append_nil, List.take_append_drop]
    exact rows_perm _ _
  have h3 : Bs.flatten = (Bs.take i).flatten ++ (Bs[i] ++ (Bs.drop (i + 1)).flatten) := by
    rw [← List.flatten_cons, ← List.flatten_append, e2]
  rw [h3, List.flatten_append, List.flatten_append, List.append_assoc]
  exact (hc.append_right _).append_left _
theorem it_flat : ∀ (j : Nat) {Bs : List (List CN)}, Bs ≠ [] → smB Bs → (itB j Bs).flatten.Perm Bs.flatten
  | 0, Bs, _, _ => List.Perm.refl _
  | j + 1, Bs, h1, h2 => by
    rw [itB]
    split
    · exact List.Perm.refl _
    · exact (it_flat j (step_ne h1 h2) (sm_step h1 h2).1).trans (step_flat h1)
theorem bxs_flat {ps : List C4} (h0 : ps ≠ []) (hl : ps.length ≤ 400) (j : Nat) : (bxs ps j).flatten.Perm (sortC (countC ps)) := by
  have := it_flat j (Bs := [sortC (countC ps)]) (by simp) (sm_start h0 hl)
  rw [List.flatten_cons, List.flatten_nil, List.append_nil] at this
  exact this
theorem len_flat {α : Type} : ∀ {Bs : List (List α)}, (∀ B ∈ Bs, B ≠ []) → Bs.length ≤ Bs.flatten.length
  | [], _ => Nat.le_refl _
  | B :: Bs, h => by
    have h1 := List.length_pos_iff.mpr (h B List.mem_cons_self)
    have h2 := len_flat fun x hx => h x (List.mem_cons_of_mem _ hx)
    rw [List.flatten_cons, List.length_append, List.length_cons]
    omega
theorem len_ones {α : Type} : ∀ {Bs : List (List α)}, (∀ B ∈ Bs, B ≠ []) → Bs.flatten.length ≤ Bs.length → ∀ B ∈ Bs, B.length = 1
  | [], _, _, B, h => by cases h
  | A :: Bs, h, hl, B, hb => by
    have h1 := List.length_pos_iff.mpr (h A List.mem_cons_self)
    have h2 := len_flat fun x hx => h x (List.mem_cons_of_mem _ hx)
    rw [List.flatten_cons, List.length_append, List.length_cons] at hl
    rcases List.mem_cons.mp hb with rfl | hb
    · omega
    · exact len_ones (fun x hx => h x (List.mem_cons_of_mem _ hx)) (by omega) B hb
theorem spr_two {cs : List C4} (h : mxL (sprs cs) ≤ 0) {a b : C4} (ha : a ∈ cs) (hb : b ∈ cs) : a = b := by
  have hne : cs ≠ [] := fun z => by rw [z] at ha; cases ha
  have hp : ∀ p, p < 4 → prt a p = prt b p := fun p hp => by
    have h1 := (mx_spec (sprs_ne cs)).2 (spr cs p) (List.mem_map.mpr ⟨p, List.mem_range.mpr hp, rfl⟩)
    have hm : cs.map (fun c => prt c p) ≠ [] := fun z => hne (List.map_eq_nil_iff.mp z)
    have a1 := (mx_spec hm).2 _ (List.mem_map.mpr ⟨a, ha, rfl⟩)
    have a2 := (mn_spec hm).2 _ (List.mem_map.mpr ⟨a, ha, rfl⟩)
    have b1 := (mx_spec hm).2 _ (List.mem_map.mpr ⟨b, hb, rfl⟩)
    have b2 := (mn_spec hm).2 _ (List.mem_map.mpr ⟨b, hb, rfl⟩)
    unfold spr at h1
    omega
  exact Prod.ext (hp 0 (by omega)) (Prod.ext (hp 1 (by omega)) (Prod.ext (hp 2 (by omega)) (hp 3 (by omega))))
theorem one_of_spr {B : List CN} (nd : (B.map (·.1)).Nodup) (hne : B ≠ []) (h : mxL (sprs (B.map (·.1))) ≤ 0) : B.length = 1 := by
  match B, hne, nd, h with
  | [e], _, _, _ => rfl
  | e :: e' :: B, _, nd, h =>
    exfalso
    have := spr_two h (a := e.1) (b := e'.1) (by simp) (by simp)
    rw [List.map_cons, List.nodup_cons] at nd
    exact nd.1 (by rw [this]; simp)
theorem Al.nd : ∀ {Bs : List (List CN)} {Ls : List (List C4)}, Al Bs Ls → ∀ B ∈ Bs, (B.map (·.1)).Nodup
  | _, _, .nil, B, h => by cases h
  | _, _, .cons h t, B, hb => by
    rcases List.mem_cons.mp hb with rfl | hb
    · exact h.nd
    · exact t.nd B hb
theorem it_ones : ∀ (j : Nat) {Bs : List (List CN)} {Ls : List (List C4)}, Al Bs Ls → Bs ≠ [] → smB Bs → Bs.flatten.length ≤ Bs.length + j → ∀ B ∈ itB j Bs, B.length = 1
  | 0, Bs, Ls, h, hne, hs, hl => len_ones (Bs := Bs) h.bne (by omega)
  | j + 1, Bs, Ls, h, hne, hs, hl => by
    have nn := told_nn h hne
    rw [itB]
    by_cases z : mxL (toldB Bs) = 0
    · rw [if_pos z]
      intro B hB
      have tne : toldB Bs ≠ [] := fun z => hne (List.map_eq_nil_iff.mp z)
      have := (mx_spec tne).2 _ (List.mem_map.mpr ⟨B, hB, rfl⟩)
      exact one_of_spr (h.nd B hB) (h.bne B hB) (by omega)
    · rw [if_neg z]
      refine it_ones j (h.step hne (by omega)) (step_ne hne hs) (sm_step hne hs).1 ?_
      rw [(step_flat hne).length_eq, (sm_step hne hs).2]
      omega
theorem mean_one {B : List CN} (h1 : B.length = 1) (hp : 0 < totN B) : [meanB B] = B.map (·.1) := by
  match B, h1, hp with
  | [(c, n)], _, hp =>
    have e1 : totN [(c, n)] = n := by unfold totN; simp
    have e2 : ∀ p, wsum [(c, n)] p = prt c p * (n : Int) := fun p => by unfold wsum; simp
    rw [e1] at hp
    have e3 : ∀ p, rnd (wsum [(c, n)] p) (totN [(c, n)]) = prt c p := fun p => by
      rw [e1, e2, Int.mul_comm]
      exact rnd_self (by omega)
    unfold meanB
    rw [e3, e3, e3, e3]
    rfl
theorem means_ones : ∀ {Bs : List (List CN)}, (∀ B ∈ Bs, B.length = 1 ∧ 0 < totN B) → Bs.map meanB = Bs.flatten.map (·.1)
  | [], _ => rfl
  | B :: Bs, h => by
    obtain ⟨a, b⟩ := h B List.mem_cons_self
    have := mean_one a b
    rw [List.map_cons, List.flatten_cons, List.map_append, ← this, means_ones fun x hx => h x (List.mem_cons_of_mem _ hx)]
    rfl
theorem cols_congr {ps qs : List C4} (h : ∀ c, c ∈ ps ↔ c ∈ qs) : colsC ps = colsC qs := by
  have : (colsC ps).map quad = (colsC qs).map quad := inc_uniq (cols_inc ps) (cols_inc qs) fun z => by
    rw [List.mem_map, List.mem_map]
    constructor
    · rintro ⟨c, hc, rfl⟩; exact ⟨c, cols_mem ((h c).mp (cols_sub hc)), rfl⟩
    · rintro ⟨c, hc, rfl⟩; exact ⟨c, cols_mem ((h c).mpr (cols_sub hc)), rfl⟩
  have inj : ∀ {l m : List C4}, l.map quad = m.map quad → l = m := by
    intro l
    induction l with
    | nil => intro m e; cases m with
      | nil => rfl
      | cons => cases e
    | cons a l ih => intro m e; cases m with
      | nil => cases e
      | cons b m =>
        rw [List.map_cons, List.map_cons, List.cons.injEq] at e
        rw [quad_inj e.1, ih e.2]
  exact inj this
theorem cols_idem (ps : List C4) : colsC (colsC ps) = colsC ps := cols_congr fun c => ⟨fun h => cols_sub h, fun h => cols_mem h⟩
theorem cols_len (ps : List C4) : (colsC ps).length ≤ ps.length := by unfold colsC; rw [List.length_map]; exact sort_len ps
theorem cols_ne {ps : List C4} (h : ps ≠ []) : colsC ps ≠ [] := fun z => by
  have := cols_mem (List.head_mem h)
  rw [z] at this
  cases this
def palC (ps : List C4) (j : Nat) : List C4 := colsC ((bxs ps j).map meanB)
theorem pal_all {ps : List C4} (h0 : ps ≠ []) (hl : ps.length ≤ 400) {j : Nat} (hj : (colsC ps).length ≤ 1 + j) : palC ps j = colsC ps := by
  have hal := al_start h0 (List.Perm.refl ps)
  have h1 := it_ones j hal (by simp) (sm_start h0 hl) (by
    rw [List.flatten_cons, List.flatten_nil, List.append_nil]
    unfold colsC at hj
    rw [List.length_map] at hj
    exact hj)
  have hp := (bxs_al h0 hl (List.Perm.refl ps) j).pos
  unfold palC
  have e : (bxs ps j).map meanB = (bxs ps j).flatten.map (·.1) := means_ones fun B hB => ⟨h1 B hB, hp B hB⟩
  rw [e]
  refine cols_congr fun c => ?_
  rw [((bxs_flat h0 hl j).map (·.1)).mem_iff]
  exact ⟨fun h => cols_sub h, fun h => cols_mem h⟩
theorem pal_len {ps : List C4} (h0 : ps ≠ []) (hl : ps.length ≤ 400) (h : ∀ p ∈ ps, okc p) (j : Nat) : 1 ≤ (palC ps j).length ∧ (palC ps j).length ≤ 1 + j := by
  obtain ⟨b1, b2, b3, b4⟩ := bxs_ok h0 hl h j
  have h1 : palC ps j ≠ [] := cols_ne fun z => b1 (List.map_eq_nil_iff.mp z)
  have h2 := cols_len ((bxs ps j).map meanB)
  rw [List.length_map] at h2
  have := List.length_pos_iff.mpr h1
  unfold palC at *
  omega
theorem pal_ok {ps : List C4} (h0 : ps ≠ []) (hl : ps.length ≤ 400) (h : ∀ p ∈ ps, okc p) (j : Nat) : ∀ c ∈ palC ps j, okc c := fun c hc => by
  obtain ⟨b1, b2, b3, b4⟩ := bxs_ok h0 hl h j
  obtain ⟨B, hB, rfl⟩ := List.mem_map.mp (cols_sub hc)
  exact mean_ok (b3 B hB) ((bxs_al h0 hl (List.Perm.refl ps) j).pos B hB)
theorem wsum_btw (p : Nat) {lo hi : Int} : ∀ {B : List CN}, (∀ e ∈ B, lo ≤ prt e.1 p ∧ prt e.1 p ≤ hi) → lo * (totN B : Int) ≤ wsum B p ∧ wsum B p ≤ hi * (totN B : Int)
  | [], _ => by simp [wsum, totN]
  | e :: B, h => by
    obtain ⟨i1, i2⟩ := wsum_btw p (B := B) fun x hx => h x (List.mem_cons_of_mem _ hx)
    obtain ⟨a1, a2⟩ := h e List.mem_cons_self
    have b1 : lo * (e.2 : Int) ≤ prt e.1 p * (e.2 : Int) := Int.mul_le_mul_of_nonneg_right a1 (by omega)
    have b2 : prt e.1 p * (e.2 : Int) ≤ hi * (e.2 : Int) := Int.mul_le_mul_of_nonneg_right a2 (by omega)
    have e1 : wsum (e :: B) p = prt e.1 p * (e.2 : Int) + wsum B p := by unfold wsum; rw [List.map_cons, List.sum_cons]
    have e2 : totN (e :: B) = e.2 + totN B := by unfold totN; rw [List.map_cons, List.sum_cons]
    rw [e1, e2, Int.natCast_add, Int.mul_add, Int.mul_add]
    omega
theorem rnd_btw {a lo hi : Int} {n : Nat} (hn : 0 < n) (h0 : lo * (n : Int) ≤ a) (h1 : a ≤ hi * (n : Int)) : lo ≤ rnd a n ∧ rnd a n ≤ hi := by
  unfold rnd
  constructor
  · refine Int.le_ediv_of_mul_le (by omega) ?_
    have : lo * (2 * (n : Int)) = 2 * (lo * (n : Int)) := by rw [Int.mul_left_comm]
    omega
  · have : (2 * a + n) / (2 * (n : Int)) < hi + 1 := by
      refine Int.ediv_lt_of_lt_mul (by omega) ?_
      have : (hi + 1) * (2 * (n : Int)) = 2 * (hi * (n : Int)) + 2 * n := by rw [Int.add_mul, Int.mul_left_comm]; omega
      omega
    omega
theorem prt_mean (B : List CN) {p : Nat} (hp : p < 4) : prt (meanB B) p = rnd (wsum B p) (totN B) := by
  match p, hp with
  | 0, _ => rfl
  | 1, _ => rfl
  | 2, _ => rfl
  | 3, _ => rfl
theorem pal_btw {ps : List C4} (h0 : ps ≠ []) (hl : ps.length ≤ 400) {j p : Nat} (hp : p < 4) {c : C4} (hc : c ∈ palC ps j) : mnL ((colsC ps).map fun c => prt c p) ≤ prt c p ∧ prt c p ≤ mxL ((colsC ps).map fun c => prt c p) := by
  obtain ⟨B, hB, rfl⟩ := List.mem_map.mp (cols_sub hc)
  have hpos := (bxs_al h0 hl (List.Perm.refl ps) j).pos B hB
  have hne : (colsC ps).map (fun c => prt c p) ≠ [] := fun z => cols_ne h0 (List.map_eq_nil_iff.mp z)
  have hin : ∀ e ∈ B, prt e.1 p ∈ (colsC ps).map fun c => prt c p := fun e he => by
    have h1 : e ∈ (bxs ps j).flatten := List.mem_flatten.mpr ⟨B, hB, he⟩
    have h2 := (bxs_flat h0 hl j).mem_iff.mp h1
    exact List.mem_map.mpr ⟨e.1, List.mem_map.mpr ⟨e, h2, rfl⟩, rfl⟩
  rw [prt_mean B hp]
  obtain ⟨w1, w2⟩ := wsum_btw p (B := B) (lo := mnL ((colsC ps).map fun c => prt c p)) (hi := mxL ((colsC ps).map fun c => prt c p)) fun e he => ⟨(mn_spec hne).2 _ (hin e he), (mx_spec hne).2 _ (hin e he)⟩
  exact rnd_btw hpos w1 w2

theorem count_of {ps : List C4} (h0 : ps ≠ []) (e : CN) : e ∈ countC ps ↔ e.1 ∈ ps ∧ e.2 = (ps.filter fun x => decide (x = e.1)).length := by
  have hr := rel_count h0
  have key : ∀ e ∈ countC ps, e.2 = (ps.filter fun x => decide (x = e.1)).length := fun e he => by
    have := hr.perm.filter fun x => decide (x = e.1)
    rw [exp_filter, one_row hr.nd he] at this
    rw [this.length_eq, exp_cons, exp_nil, List.append_nil, List.length_replicate]
  constructor
  · intro he
    exact ⟨hr.mem.mpr (List.mem_map.mpr ⟨e, he, rfl⟩), key e he⟩
  · rintro ⟨h1, h2⟩
    obtain ⟨e', he', q⟩ := List.mem_map.mp (hr.mem.mp h1)
    have h3 := key e' he'
    rw [q, ← h2] at h3
    have : e' = e := Prod.ext q h3
    rw [← this]
    exact he'
theorem sortC_perm {ps qs : List C4} (h0 : ps ≠ []) (h : ps.Perm qs) : sortC (countC ps) = sortC (countC qs) := by
  have h1 : qs ≠ [] := fun z => h0 (by rw [z] at h; exact h.eq_nil)
  have hm : ∀ e, e ∈ countC ps ↔ e ∈ countC qs := fun e => by rw [count_of h0, count_of h1, h.mem_iff, (h.filter _).length_eq]
  have nd : ∀ rs : List C4, (countC rs).Nodup := fun rs => (List.pairwise_map.mp (count_nodup rs)).imp fun h z => h (by rw [z])
  have hp : (countC ps).Perm (countC qs) := (List.perm_ext_iff_of_nodup (nd ps) (nd qs)).mpr hm
  have sp : ∀ rs : List C4, (sortC (countC rs)).Pairwise fun a b => srtD (col a.1) (col b.1) = true := fun rs => List.pairwise_mergeSort (le := fun a b : CN => srtD (col a.1) (col b.1)) (fun a b c h1 h2 => srt_trans h1 h2) (fun a b => srt_total a b) _
  refine List.Perm.eq_of_pairwise (le := fun a b : CN => srtD (col a.1) (col b.1) = true) (fun a b ha hb q1 q2 => ?_) (sp ps) (sp qs) (((List.mergeSort_perm _ _).trans hp).trans (List.mergeSort_perm _ _).symm)
  have ha' := sort_mem.mp ha
  have hb' := (hm b).mpr (sort_mem.mp hb)
  refine cn_uniq (count_nodup ps) ha' hb' ?_
  rw [srt_ltL] at q1 q2
  simp only [Bool.not_eq_true'] at q1 q2
  rcases ltL_tri (a := quad a.1) (b := quad b.1) rfl with z | z | z
  · rw [q2] at z; cases z
  · exact quad_inj z
  · rw [q1] at z; cases z
theorem pal_perm {ps qs : List C4} (h0 : ps ≠ []) (h : ps.Perm qs) (j : Nat) : palC ps j = palC qs j := by
  unfold palC bxs
  rw [sortC_perm h0 h]

theorem perm_rev {α : Type} (n : Nat) (f : Nat → α) : ((List.range n).map fun k => f (n - 1 - k)).Perm ((List.range n).map f) := by
  have : (List.range n).map (fun k => f (n - 1 - k)) = ((List.range n).map f).reverse := by
    refine List.ext_getElem? fun k => ?_
    by_cases hk : k < n
    · rw [List.getElem?_reverse (by simp; omega), List.length_map, List.length_range, List.getElem?_map, List.getElem?_range hk, List.getElem?_map, List.getElem?_range (by omega)]
      rfl
    · rw [List.getElem?_eq_none (by simp; omega), List.getElem?_eq_none (by simp; omega)]
  rw [this]
  exact List.reverse_perm _
theorem flat_perm {α : Type} : ∀ {l m : List (List α)}, l.length = m.length → (∀ i (h : i < l.length) (h' : i < m.length), (l[i]).Perm (m[i])) → l.flatten.Perm m.flatten
  | [], [], _, _ => List.Perm.refl _
  | [], _ :: _, h, _ => by cases h
  | _ :: _, [], h, _ => by cases h
  | a :: l, b :: m, h, hp => by
    rw [List.flatten_cons, List.flatten_cons]
    exact (hp 0 (by simp) (by simp)).append (flat_perm (by simpa using h) fun i h1 h2 => hp (i + 1) (by simp; omega) (by simp; omega))
theorem grid_at {α : Type} {w h i : Nat} {c : Nat → Nat → α} (hi : i < (gridL w h c).length) : (gridL w h c)[i] = (List.range w).map fun x => c x i := by
  have := grid_get (w := w) (c := c) (y := i) (h := h) (by rw [grid_len] at hi; exact hi)
  rw [List.getElem?_eq_getElem hi] at this
  exact Option.some.inj this
theorem perm_mir {α : Type} (w h : Nat) (c : Nat → Nat → α) : (gridL w h fun i j => c (w - 1 - i) j).flatten.Perm (gridL w h c).flatten := by
  refine flat_perm (by rw [grid_len, grid_len]) fun i h1 h2 => ?_
  rw [grid_at, grid_at]
  exact perm_rev w fun x => c x i
theorem perm_cols {α : Type} (c : Nat → Nat → α) : ∀ (w h : Nat), (gridL w h c).flatten.Perm (gridL h w fun x y => c y x).flatten
  | w, 0 => by
    have : (gridL 0 w fun x y => c y x).flatten = [] := by rw [← List.length_eq_zero_iff, cells_len, Nat.zero_mul]
    rw [this]
    exact List.Perm.refl _
  | w, h + 1 => by
    have e1 : (gridL w (h + 1) c).flatten = (gridL w h c).flatten ++ (List.range w).map fun x => c x h := by
      unfold gridL
      rw [List.range_succ, List.map_append, List.flatten_append]
      simp
    have e2 : ∀ n, ((List.range n).map fun y => (List.range (h + 1)).map fun x => c y x).flatten.Perm (((List.range n).map fun y => (List.range h).map fun x => c y x).flatten ++ (List.range n).map fun x => c x h) := by
      intro n
      induction n with
      | zero => exact List.Perm.refl _
      | succ n ih =>
        rw [List.range_succ (n := n), List.map_append, List.flatten_append, List.map_append, List.flatten_append, List.map_append]
        simp only [List.map_cons, List.map_nil, List.flatten_cons, List.flatten_nil, List.append_nil]
        have el : (List.range (h + 1)).map (fun x => c n x) = (List.range h).map (fun x => c n x) ++ [c n h] := by
          rw [List.range_succ (n := h), List.map_append]; rfl
        rw [el]
        generalize ((List.range n).map fun y => (List.range (h + 1)).map fun x => c y x).flatten = A at ih ⊢
        generalize ((List.range n).map fun y => (List.range h).map fun x => c y x).flatten = B at ih ⊢
        generalize (List.range n).map (fun x => c x h) = C at ih ⊢
        generalize (List.range h).map (fun x => c n x) = X
        refine (ih.append_right _).trans ?_
        rw [List.append_assoc, List.append_assoc]
        refine List.Perm.append_left _ ?_
        rw [← List.append_assoc, ← List.append_assoc]
        exact List.perm_append_comm.append_right _
    rw [e1]
    exact ((perm_cols c w h).append_right _).trans (e2 w).symm
theorem perm_tur {α : Type} (w h : Nat) (c : Nat → Nat → α) : (gridL h w fun i j => c j (h - 1 - i)).flatten.Perm (gridL w h c).flatten :=
  (perm_mir h w fun i j => c j i).trans (perm_cols (fun i j => c j i) h w)
end Rp
end
noncomputable section
namespace Rf
open PySem Pm

section
variable {w h : Nat} (hw : 1 ≤ w ∧ w ≤ 50) (hh : 1 ≤ h ∧ h ≤ 50)
include hw hh
end
end Rf
noncomputable section
namespace Pm
open PySem

section
variable {w h w2 h2 : Nat} {c0 c2 : Nat → Nat → C4} {X Y : Int} {m : Str} {s : Int}
end
end Pm
end
noncomputable section
namespace Pm
open PySem

inductive Lay where
  | leaf (n : Str) (w h : Nat) (c : Nat → Nat → C4) (x y s : Int) (m : Str) (v : Bool)
  | lot (n : Str) (ls : List Lay) (s : Int) (m : Str) (v : Bool)
mutual
def layD : Lay → D
  | .leaf n w h c x y s m v => .tup [.str "leaf", .str n, picC w h c, .int x, .int y, .int s, .str m, .bl v]
  | .lot n ls s m v => .tup [.str "lot", .str n, .tup (layDs ls), .int s, .str m, .bl v]
def layDs : List Lay → List D
  | [] => []
  | l :: ls => layD l :: layDs ls
end
abbrev z4 : C4 := (0, 0, 0, 0)
mutual
def flat1 (W H : Nat) (cc : Nat → Nat → C4) : Lay → Nat → Nat → C4
  | .leaf _ w h c x y s m v => if v = true then putC w h x y (layF m s) cc c else cc
  | .lot _ ls s m v => if v = true then putC W H 0 0 (layF m s) cc (flats W H (fun _ _ => z4) ls) else cc
def flats (W H : Nat) (cc : Nat → Nat → C4) : List Lay → Nat → Nat → C4
  | [] => cc
  | l :: ls => flats W H (flat1 W H cc l) ls
end
def far (x : Int) : Prop := -999 ≤ x ∧ x ≤ 999
def okL (N : Str → Prop) : Nat → Lay → Prop
  | _, .leaf n w h c x y s m _ => (1 ≤ w ∧ w ≤ 99) ∧ (1 ≤ h ∧ h ≤ 99) ∧ (∀ x y, okc (c x y)) ∧ byt s ∧ m ∈ mW ∧ N n ∧ far x ∧ far y
  | n + 1, .lot nm ls s m _ => (∀ l ∈ ls, okL N n l) ∧ ls.length ≤ 10 ∧ byt s ∧ m ∈ mW ∧ N nm
  | 0, .lot .. => False
section
variable {N : Str → Prop} {W H : Nat}
end
def LayL (L : Lams) : Prop := (L.tx 0).ps.length = 2 ∧ ∀ m s p q, L.sm 0 [.str m, .int s] [p, q] = fCall m_blended (fCons (fCall m_faded (fCons (M.pure p) (fCons (M.pure (.int s)) fNil))) (fCons (M.pure q) (fCons (M.pure (.str m)) fNil)))
section
variable {L : Lams} (hL : LayL L) {w h w2 h2 : Nat} {c c2 : Nat → Nat → C4} {X Y : Int}
end
section
variable {L : Lams} (hL : LayL L) {W H : Nat} (hW : 1 ≤ W ∧ W ≤ 99) (hH : 1 ≤ H ∧ H ≤ 99) {N : Str → Prop}
end

section
variable {W H : Nat} (hW : 1 ≤ W ∧ W ≤ 99) (hH : 1 ≤ H ∧ H ≤ 99) {N : Str → Prop}
end
end Pm
end
noncomputable section
namespace Pm
open PySem

mutual
def hit1 (X Y : Int) : Lay → List (List Str)
  | .leaf n w h c x y _ _ v => if v = true ∧ (0 ≤ X - x ∧ X - x < w ∧ 0 ≤ Y - y ∧ Y - y < h) ∧ 0 < (c (X - x).toNat (Y - y).toNat).2.2.2 then [[n]] else []
  | .lot n ls _ _ v => if v = true then (hits X Y ls).map (n :: ·) else []
def hits (X Y : Int) : List Lay → List (List Str)
  | [] => []
  | l :: ls => hits X Y ls ++ hit1 X Y l
end
section
variable {N : Str → Prop} {X Y : Int}
end
section
variable {N : Str → Prop} {X Y : Int}

end

def NmD (n : Nat) (x : Str) : Prop := ∃ (a : Str) (t : List Str), a ∈ (["p", "q", "r", "s", "t", "z"] : List Str) ∧ t.length ≤ n ∧ (∀ s ∈ t, s ∈ (["a", "b"] : List Str)) ∧ x = t.foldl (· ++ ·) a
theorem NmD.mono {j k : Nat} {x : Str} (h : NmD j x) (l : j ≤ k) : NmD k x := let ⟨a, t, h1, h2, h3, h4⟩ := h; ⟨a, t, h1, by omega, h3, h4⟩
end Pm
end
noncomputable section
namespace Pm
open PySem

end Pm
end
noncomputable section
namespace Pm
open PySem

structure Stu where
  W : Nat
  H : Nat
  rows : List Lay
  past : List (List Lay × D)
  later : List (List Lay × D)
def recD (l : List (List Lay × D)) : List D := l.map fun p => .tup [.tup (layDs p.1), p.2]
def stuF (S : Stu) (p q : Nat) : List (Str × D) := [("width", .int S.W), ("height", .int S.H), ("rows", .tup (layDs S.rows)), ("past", .obj p), ("later", .obj q)]
structure At (o : List (Option Ob)) (k p q : Nat) (S : Stu) : Prop where
  kp : k ≠ p
  kq : k ≠ q
  pq : p ≠ q
  ins : o[k]? = some (some (.ins "Studio" (stuF S p q)))
  past : o[p]? = some (some (.lst (recD S.past)))
  later : o[q]? = some (some (.lst (recD S.later)))
theorem okts_all : ∀ {l : List D}, (∀ d ∈ l, okt d = true) → okts l = true
  | [], _ => rfl
  | d :: l, h => by
    rw [okts, h d List.mem_cons_self, okts_all fun x hx => h x (List.mem_cons_of_mem _ hx)]; rfl
theorem okt_picC (w h : Nat) (c : Nat → Nat → C4) : okt (picC w h c) = true := by
  have e : okts (gridL w h fun x y => col (c x y)).flatten = true := okts_all fun d hd => by
    obtain ⟨x, y, _, _, rfl⟩ := mem_grid hd
    rfl
  show okt (.tup [.int w, .int h, .tup (gridL w h fun x y => col (c x y)).flatten]) = true
  simp only [okt, okts, e, Bool.and_self]
mutual
theorem okt_lay : ∀ l : Lay, okt (layD l) = true
  | .leaf n w h c x y s m v => by rw [layD]; simp only [okt, okts, okt_picC, Bool.and_self]
  | .lot n ls s m v => by rw [layD]; simp only [okt, okts, okt_lays ls, Bool.and_self]
theorem okt_lays : ∀ ls : List Lay, okts (layDs ls) = true
  | [] => by rw [layDs]; rfl
  | l :: ls => by rw [layDs, okts, okt_lay l, okt_lays ls]; rfl
end
section
variable {o : List (Option Ob)} {t : Option (List Int)} {k p q : Nat} {S : Stu}

theorem at_lt {α : Type} {l : List α} {i : Nat} {x : α} (h : l[i]? = some x) : i < l.length := (List.getElem?_eq_some_iff.mp h).1

mutual
def nam1 : Lay → List Str
  | .leaf n .. => [n]
  | .lot n ls _ _ _ => n :: namesL ls
def namesL : List Lay → List Str
  | [] => []
  | l :: ls => nam1 l ++ namesL ls
end
structure OkS (N : Str → Prop) (S : Stu) : Prop where
  w : 1 ≤ S.W ∧ S.W ≤ 99
  h : 1 ≤ S.H ∧ S.H ≤ 99
  len : S.rows.length ≤ 10
  rows : ∀ l ∈ S.rows, okL N 7 l
  few : (namesL S.rows).length ≤ 100
  past : S.past.length ≤ 1000
  later : S.later.length ≤ 1000

section
variable {w : W} {op : D → D → Option D} {a b : M D} {x y z d : D} {g : M (List D)} {l : List D} {lo hi : M (Option Int)} {i j : Option Int} {m : Mf} {fn : List D → Option D}
end

end
end Pm
end
noncomputable section
namespace Pm
open PySem

instance farD (x : Int) : Decidable (far x) := by unfold far; exact inferInstance
mutual
def mv1 (x y : Int) : Lay → Option Lay
  | .leaf n w h c a b s m v => if far (a + x) ∧ far (b + y) then some (.leaf n w h c (a + x) (b + y) s m v) else none
  | .lot n ls s m v => (mvs x y ls).map fun ls => .lot n ls s m v
def mvs (x y : Int) : List Lay → Option (List Lay)
  | [] => some []
  | l :: ls => (mv1 x y l).bind fun a => (mvs x y ls).map (a :: ·)
end
section
variable {o : List (Option Ob)} {t : Option (List Int)} {k p q : Nat} {S : Stu} {N : Str → Prop}

end

end Pm
end
noncomputable section
namespace Pm
open PySem

section
variable {o : List (Option Ob)} {t : Option (List Int)} {k p q : Nat} {S : Stu} {N : Str → Prop}
end

def Pre (o o' : List (Option Ob)) : Prop := o.length ≤ o'.length ∧ ∀ i, i < o.length → o'[i]? = o[i]?
theorem Pre.more {o o' n : List (Option Ob)} (h : Pre o o') : Pre o (o' ++ n) := ⟨by rw [List.length_append]; have := h.1; omega, fun i hi => by rw [List.getElem?_append_left (Nat.lt_of_lt_of_le hi h.1)]; exact h.2 i hi⟩
theorem At.more {o n : List (Option Ob)} {k p q : Nat} {S : Stu} (h : At o k p q S) : At (o ++ n) k p q S :=
  ⟨h.kp, h.kq, h.pq, by rw [List.getElem?_append_left (at_lt h.ins)]; exact h.ins, by rw [List.getElem?_append_left (at_lt h.past)]; exact h.past, by rw [List.getElem?_append_left (at_lt h.later)]; exact h.later⟩
def Sta (ob o : List (Option Ob)) (k : Nat) (S : Stu) : Prop := ∃ p q, At o k p q S ∧ Pre ob o ∧ ob.length ≤ k ∧ ob.length ≤ p ∧ ob.length ≤ q
section
variable {ob o : List (Option Ob)} {t : Option (List Int)} {k : Nat} {S : Stu} {N : Str → Prop} {m : M D}
theorem Sta.more {n : List (Option Ob)} (h : Sta ob o k S) : Sta ob (o ++ n) k S := let ⟨p, q, hA, hP, r⟩ := h; ⟨p, q, hA.more, hP.more, r⟩

end
section
variable {α : Type} {w w' : W} {c a b : M Bool} {x y : M α} {m : M D} {k : Bool}
end
end Pm
end
noncomputable section
namespace Pm
open PySem
section
variable {ns : List Int} (hn : ns.length ≤ 63) {far : Int} (hf : 1 ≤ far ∧ far ≤ 60)
include hn hf
end

end Pm
end
noncomputable section
namespace Pm
open PySem

section
variable {o : List (Option Ob)} {t : Option (List Int)} {k p q : Nat} {S : Stu} {N : Str → Prop}
end
end Pm
end
noncomputable section
namespace Pm
open PySem

section
variable {o : List (Option Ob)} {t : Option (List Int)} {k p q : Nat} {S : Stu} {N : Str → Prop}
end
end Pm
end
noncomputable section
namespace Pm
open PySem
def p_must_be_as_great (one_ : D) (other_ : D) : M D :=
  (fIf (fOf (fBin neD (fSl (M.pure one_) fONo (fOSo (M.pure (D.int 2)))) (fSl (M.pure other_) fONo (fOSo (M.pure (D.int 2))))))
  (M.raise "Uneven")
  (M.pure D.non))
def m_must_be_as_great : Mf := fun ds => match ds with
  | [one_, other_] => p_must_be_as_great one_ other_
  | _ => M.bad
end Pm
namespace Rm
open PySem Pm

def z4 : C4 := (0, 0, 0, 0)
section
variable {W H : Nat} {cs : List C4} (hW : 1 ≤ W ∧ W ≤ 99) (hH : 1 ≤ H ∧ H ≤ 99) (hl : cs.length = W * H)
include hW hH hl
end


def p4 (c : C4) (p : Nat) : Int := match p with
  | 0 => c.1
  | 1 => c.2.1
  | 2 => c.2.2.1
  | _ => c.2.2.2
end Rm
end
noncomputable section
namespace Pm
open PySem
def p_faults (one_ : D) (other_ : D) : M D :=
  (M.bind (fCall m_must_be_as_great (fCons (M.pure one_) (fCons (M.pure other_) fNil))) fun _ =>
  (fCB sumF (fCons (fLC (fZip (fCons (fBin ixD (M.pure one_) (M.pure (D.int 2))) (fCons (fBin ixD (M.pure other_) (M.pure (D.int 2))) fNil))) fun it1_ => (fU2 it1_ fun left_ right_ => (fCall m_distance (fCons (M.pure left_) (fCons (M.pure right_) fNil))))) fNil)))
def m_faults : Mf := fun ds => match ds with
  | [one_, other_] => p_faults one_ other_
  | _ => M.bad
def l0__law_few_holds (_law_picture_ : D) (_law_palette_ : D) (_law_new_ : D) (it1_ : D) (st_ : Unit) (k0_ : Unit → M D) : M D :=
  (fU2 it1_ fun _law_cell_ _law_other_ => (fIf (fTru (fLCf (fItems (M.pure _law_palette_)) fun _law_one_ => fIf (fOf (fBin ltD (fCall m_distance (fCons (M.pure _law_one_) (fCons (M.pure _law_cell_) fNil))) (fCall m_distance (fCons (M.pure _law_other_) (fCons (M.pure _law_cell_) fNil))))) (M.bind (M.pure _law_one_) fun y_ => M.pure (some y_)) (M.pure none)))
  (M.pure (D.bl false))
  (fIf (fOf (fBin neD (fBin ixD (M.pure _law_palette_) (fCall m_nearest (fCons (M.pure _law_palette_) (fCons (M.pure _law_cell_) fNil)))) (M.pure _law_other_)))
  (M.pure (D.bl false))
  (k0_ ()))))
def p__law_few_holds (_law_picture_ : D) (_law_palette_ : D) : M D :=
  (M.bind (fCall m_in_few (fCons (M.pure _law_picture_) (fCons (M.pure _law_palette_) fNil))) fun _law_new_ =>
  (fIf (fOrB (fOf (fBin neD (fSl (M.pure _law_new_) fONo (fOSo (M.pure (D.int 2)))) (fSl (M.pure _law_picture_) fONo (fOSo (M.pure (D.int 2)))))) (fTru (fLCf (fItems (fBin ixD (M.pure _law_new_) (M.pure (D.int 2)))) fun _law_cell_ => fIf (fOf (fBin ninD (M.pure _law_cell_) (M.pure _law_palette_))) (M.bind (M.pure _law_cell_) fun y_ => M.pure (some y_)) (M.pure none))))
  (M.pure (D.bl false))
  (fIf (fOf (fBin neD (fCall m_in_few (fCons (M.pure _law_new_) (fCons (M.pure _law_palette_) fNil))) (M.pure _law_new_)))
  (M.pure (D.bl false))
  (M.bind (fZip (fCons (fBin ixD (M.pure _law_picture_) (M.pure (D.int 2))) (fCons (fBin ixD (M.pure _law_new_) (M.pure (D.int 2))) fNil))) fun xs2_ => fFor (l0__law_few_holds _law_picture_ _law_palette_ _law_new_) xs2_ () fun _ =>
  (fAnd (fBin eqD (fCall m_faults (fCons (M.pure _law_picture_) (fCons (M.pure _law_picture_) fNil))) (M.pure (D.int 0))) (fBin eqD (fCall m_faults (fCons (M.pure _law_picture_) (fCons (M.pure _law_new_) fNil))) (fCall m_faults (fCons (M.pure _law_new_) (fCons (M.pure _law_picture_) fNil)))))))))
def m__law_few_holds : Mf := fun ds => match ds with
  | [_law_picture_, _law_palette_] => p__law_few_holds _law_picture_ _law_palette_
  | _ => M.bad
def l1__law_palette_holds (_law_picture_ : D) (_law_many_ : D) (_law_palette_ : D) (_law_every_ : D) (_law_colour_ : D) (_law_spot_ : D) (st_ : Unit) (k1_ : Unit → M D) : M D :=
  (M.bind (fLC (fItems (M.pure _law_every_)) fun _law_one_ => (fBin ixD (M.pure _law_one_) (M.pure _law_spot_))) fun _law_parts_ =>
  (fIf (fNotB (fOf (fChain leD leD (fCB minF (fCons (M.pure _law_parts_) fNil)) (fBin ixD (M.pure _law_colour_) (M.pure _law_spot_)) (fCB maxF (fCons (M.pure _law_parts_) fNil)))))
  (M.pure (D.bl false))
  (k1_ ())))
def l0__law_palette_holds (_law_picture_ : D) (_law_many_ : D) (_law_palette_ : D) (_law_every_ : D) (_law_colour_ : D) (st_ : Unit) (k0_ : Unit → M D) : M D :=
  (fIf (fNotB (fTru (fCall m_is_colour (fCons (M.pure _law_colour_) fNil))))
  (M.pure (D.bl false))
  (M.bind (fRng (fCons (M.pure (D.int 4)) fNil)) fun xs2_ => fFor (l1__law_palette_holds _law_picture_ _law_many_ _law_palette_ _law_every_ _law_colour_) xs2_ () fun _ =>
  (k0_ ())))
def p__law_palette_holds (_law_picture_ : D) (_law_many_ : D) : M D :=
  (M.bind (fCall m_palette_for (fCons (M.pure _law_picture_) (fCons (M.pure _law_many_) fNil))) fun _law_palette_ => (M.bind (fLC (fItems (fCall m_colours_of (fCons (M.pure _law_picture_) fNil))) fun it1_ => (fU2 it1_ fun _law_colour_ _law_count_ => (M.pure _law_colour_))) fun _law_every_ => 
  (fIf (fOrB (fNotB (fOf (fChain leD leD (M.pure (D.int 1)) (fCB lenF (fCons (M.pure _law_palette_) fNil)) (M.pure _law_many_)))) (fOf (fBin neD (fCB lstF (fCons (M.pure _law_palette_) fNil)) (fCB ssF (fCons (M.pure _law_palette_) fNil)))))
  (M.pure (D.bl false))
  (M.bind (fItems (M.pure _law_palette_)) fun xs3_ => fFor (l0__law_palette_holds _law_picture_ _law_many_ _law_palette_ _law_every_) xs3_ () fun _ =>
  (fIf (fOf (fBin geD (M.pure _law_many_) (fCB lenF (fCons (M.pure _law_every_) fNil))))
  (fAnd (fBin eqD (fCB lstF (fCons (M.pure _law_palette_) fNil)) (M.pure _law_every_)) (fBin eqD (fCall m_in_few (fCons (M.pure _law_picture_) (fCons (M.pure _law_palette_) fNil))) (M.pure _law_picture_)))
  (fCall m__law_few_holds (fCons (M.pure _law_picture_) (fCons (M.pure _law_palette_) fNil))))))))
def m__law_palette_holds : Mf := fun ds => match ds with
  | [_law_picture_, _law_many_] => p__law_palette_holds _law_picture_ _law_many_
  | _ => M.bad
def l1_law (_law_script_ : D) (_law_town_ : D) (_law_picture_ : D) (_law_many_ : D) (st_ : Unit) (k1_ : Unit → M D) : M D :=
  (fIf (fNotB (fTru (fCall m__law_palette_holds (fCons (M.pure _law_picture_) (fCons (M.pure _law_many_) fNil)))))
  (M.pure (D.bl false))
  (M.bind (fCall m_palette_for (fCons (M.pure _law_picture_) (fCons (M.pure _law_many_) fNil))) fun _law_told_ =>
  (fIf (fOf (fBin neD (fCall m_palette_for (fCons (fCall m_turned (fCons (M.pure _law_picture_) fNil)) (fCons (M.pure _law_many_) fNil))) (M.pure _law_told_)))
  (M.pure (D.bl false))
  (fIf (fOf (fBin neD (fCall m_palette_for (fCons (fCall m_mirrored (fCons (M.pure _law_picture_) fNil)) (fCons (M.pure _law_many_) fNil))) (M.pure _law_told_)))
  (M.pure (D.bl false))
  (k1_ ())))))
def l0_law (_law_script_ : D) (_law_town_ : D) (_law_k_ : D) (st_ : Unit) (k0_ : Unit → M D) : M D :=
  (M.bind (fBin addD (M.pure (D.int 1)) (fCall m__law_draw (fCons (M.pure _law_script_) (fCons (M.pure _law_town_) (fCons (M.pure (D.int 5)) fNil))))) fun _law_width_ => (M.bind (fBin addD (M.pure (D.int 1)) (fCall m__law_draw (fCons (M.pure _law_script_) (fCons (M.pure _law_town_) (fCons (M.pure (D.int 5)) fNil))))) fun _law_height_ => 
  (M.bind (fCall m__law_drawn_picture (fCons (M.pure _law_script_) (fCons (M.pure _law_town_) (fCons (M.pure _law_width_) (fCons (M.pure _law_height_) (fCons (M.pure (D.int 6)) fNil)))))) fun _law_picture_ =>
  (M.bind (fCB tupF (fCons (fLC (fRng (fCons (fBin addD (M.pure (D.int 1)) (fCall m__law_draw (fCons (M.pure _law_script_) (fCons (M.pure _law_town_) (fCons (M.pure (D.int 4)) fNil))))) fNil)) fun _law_j_ => (fCall m__law_drawn_colour (fCons (M.pure _law_script_) (fCons (M.pure _law_town_) fNil)))) fNil)) fun _law_palette_ =>
  (M.bind (fBin addD (M.pure _law_palette_) (fTup (fCons (fCall m__law_drawn_colour (fCons (M.pure _law_script_) (fCons (M.pure _law_town_) fNil))) fNil))) fun _law_more_ =>
  (fIf (fNotB (fTru (fCall m__law_few_holds (fCons (M.pure _law_picture_) (fCons (M.pure _law_palette_) fNil)))))
  (M.pure (D.bl false))
  (fIf (fOf (fBin gtD (fCall m_faults (fCons (M.pure _law_picture_) (fCons (fCall m_in_few (fCons (M.pure _law_picture_) (fCons (M.pure _law_more_) fNil))) fNil))) (fCall m_faults (fCons (M.pure _law_picture_) (fCons (fCall m_in_few (fCons (M.pure _law_picture_) (fCons (M.pure _law_palette_) fNil))) fNil)))))
  (M.pure (D.bl false))
  (M.bind (fItems (fTup (fCons (M.pure (D.int 1)) (fCons (M.pure (D.int 2)) (fCons (M.pure (D.int 3)) (fCons (M.pure (D.int 9)) fNil)))))) fun xs1_ => fFor (l1_law _law_script_ _law_town_ _law_picture_) xs1_ () fun _ =>
  (k0_ ())))))))))
def p_law (_law_script_ : D) : M D :=
  (M.bind newTown fun _law_town_ =>
  (M.bind (fRng (fCons (M.pure (D.int 5)) fNil)) fun xs2_ => fFor (l0_law _law_script_ _law_town_) xs2_ () fun _ =>
  (M.pure (D.bl true))))
def m_law : Mf := fun ds => match ds with
  | [_law_script_] => p_law _law_script_
  | _ => M.bad
end Pm
end
namespace Lw
open PySem PySem.Spec PyProof.Rows L2 Pm

def topS (i : Nat) : Stmt := PySem.Challenge.pw_paintyard_k12_whole_few_colours.main.body.getD i (.Pass ⟨0, 0, 0, 0⟩)
structure Hd (K : PySem.W.Frag) (mg : Str → Option Value) : Prop where
  d__law_draw : Df K mg "_law_draw" (topS 26) ["_law_script", "_law_town", "_law_many"]
  d__law_pick : Df K mg "_law_pick" (topS 27) ["_law_script", "_law_town", "_law_some"]
  d__law_drawn_colour : Df K mg "_law_drawn_colour" (topS 28) ["_law_script", "_law_town"]
  d__law_drawn_picture : Df K mg "_law_drawn_picture" (topS 29) ["_law_script", "_law_town", "_law_width", "_law_height", "_law_many"]
  d_colours_of : Df K mg "colours_of" (topS 16) ["picture"]
  d_distance : Df K mg "distance" (topS 8) ["one", "other"]
  d_nearest : Df K mg "nearest" (topS 17) ["palette", "colour"]
  d_in_few : Df K mg "in_few" (topS 18) ["picture", "palette"]
  d_must_be_as_great : Df K mg "must_be_as_great" (topS 14) ["one", "other"]
  d_faults : Df K mg "faults" (topS 19) ["one", "other"]
  d__law_few_holds : Df K mg "_law_few_holds" (topS 30) ["_law_picture", "_law_palette"]
  d_spreads : Df K mg "spreads" (topS 20) ["box"]
  d_cut_box : DfM K mg "cut_box" (topS 21) ["box"]
  d_rounded : Df K mg "rounded" (topS 7) ["one", "by"]
  d_mean_of : Df K mg "mean_of" (topS 22) ["box"]
  d_palette_for : Df K mg "palette_for" (topS 23) ["picture", "many"]
  d_is_whole : Df K mg "is_whole" (topS 4) ["thing"]
  d_is_part : Df K mg "is_part" (topS 5) ["thing"]
  d_is_colour : Df K mg "is_colour" (topS 6) ["thing"]
  d__law_palette_holds : Df K mg "_law_palette_holds" (topS 31) ["_law_picture", "_law_many"]
  d_turned : Df K mg "turned" (topS 12) ["picture"]
  d_of_rows : Df K mg "of_rows" (topS 11) ["rows"]
  d_rows_of : Df K mg "rows_of" (topS 10) ["picture"]
  d_mirrored : Df K mg "mirrored" (topS 13) ["picture"]
  d_law : Df K mg "law" (topS 32) ["_law_script"]
  nd : ((tabsK K).map (·.1)).Nodup
  nt : noTup K = true
  x_Uneven : Xk K mg "Uneven"
  n_abs : mg "abs" = none
  n_all : mg "all" = none
  n_bool : mg "bool" = none
  n_int : mg "int" = none
  n_isinstance : mg "isinstance" = none
  n_len : mg "len" = none
  n_list : mg "list" = none
  n_max : mg "max" = none
  n_min : mg "min" = none
  n_range : mg "range" = none
  n_set : mg "set" = none
  n_sorted : mg "sorted" = none
  n_sum : mg "sum" = none
  n_tuple : mg "tuple" = none
  n_zip : mg "zip" = none
theorem sc__law_draw : FnScope ["_law_script", "_law_town", "_law_many", "_law_k", "_law_cell", "_law_digits", "_law_number", "_law_more"] ["_law_script", "_law_town", "_law_many"] (defScope (topS 26)) := ⟨rfl, rfl, rfl, by decide +kernel, rfl, by decide +kernel, by decide +kernel⟩
theorem sc__law_pick : FnScope ["_law_script", "_law_town", "_law_some"] ["_law_script", "_law_town", "_law_some"] (defScope (topS 27)) := ⟨rfl, rfl, rfl, by decide +kernel, rfl, by decide +kernel, by decide +kernel⟩
theorem sc__law_drawn_colour : FnScope ["_law_script", "_law_town", "_law_some", "_law_parts", "_law_k"] ["_law_script", "_law_town"] (defScope (topS 28)) := ⟨rfl, rfl, rfl, by decide +kernel, rfl, by decide +kernel, by decide +kernel⟩
theorem sc__law_drawn_picture : FnScope ["_law_script", "_law_town", "_law_width", "_law_height", "_law_many", "_law_some", "_law_k"] ["_law_script", "_law_town", "_law_width", "_law_height", "_law_many"] (defScope (topS 29)) := ⟨rfl, rfl, rfl, by decide +kernel, rfl, by decide +kernel, by decide +kernel⟩
theorem sc_colours_of : FnScope ["picture", "found", "cell"] ["picture"] (defScope (topS 16)) := ⟨rfl, rfl, rfl, by decide +kernel, rfl, by decide +kernel, by decide +kernel⟩
theorem sc_distance : FnScope ["one", "other", "left", "right"] ["one", "other"] (defScope (topS 8)) := ⟨rfl, rfl, rfl, by decide +kernel, rfl, by decide +kernel, by decide +kernel⟩
theorem sc_nearest : FnScope ["palette", "colour", "far", "one"] ["palette", "colour"] (defScope (topS 17)) := ⟨rfl, rfl, rfl, by decide +kernel, rfl, by decide +kernel, by decide +kernel⟩
theorem sc_in_few : FnScope ["picture", "palette", "table", "colour", "many", "cell"] ["picture", "palette"] (defScope (topS 18)) := ⟨rfl, rfl, rfl, by decide +kernel, rfl, by decide +kernel, by decide +kernel⟩
theorem sc_must_be_as_great : FnScope ["one", "other"] ["one", "other"] (defScope (topS 14)) := ⟨rfl, rfl, rfl, by decide +kernel, rfl, by decide +kernel, by decide +kernel⟩
theorem sc_faults : FnScope ["one", "other", "left", "right"] ["one", "other"] (defScope (topS 19)) := ⟨rfl, rfl, rfl, by decide +kernel, rfl, by decide +kernel, by decide +kernel⟩
theorem sc__law_few_holds : FnScope ["_law_picture", "_law_palette", "_law_new", "_law_cell", "_law_other", "_law_one"] ["_law_picture", "_law_palette"] (defScope (topS 30)) := ⟨rfl, rfl, rfl, by decide +kernel, rfl, by decide +kernel, by decide +kernel⟩
theorem sc_spreads : FnScope ["box", "found", "at", "parts", "colour", "many"] ["box"] (defScope (topS 20)) := ⟨rfl, rfl, rfl, by decide +kernel, rfl, by decide +kernel, by decide +kernel⟩
theorem sc_cut_box : FnScope ["box", "told", "part", "rows", "total", "seen", "many", "colour", "count"] ["box"] (defScope (topS 21)) := ⟨rfl, rfl, rfl, by decide +kernel, rfl, by decide +kernel, by decide +kernel⟩
theorem sc_rounded : FnScope ["one", "by"] ["one", "by"] (defScope (topS 7)) := ⟨rfl, rfl, rfl, by decide +kernel, rfl, by decide +kernel, by decide +kernel⟩
theorem sc_mean_of : FnScope ["box", "total", "colour", "many", "at"] ["box"] (defScope (topS 22)) := ⟨rfl, rfl, rfl, by decide +kernel, rfl, by decide +kernel, by decide +kernel⟩
theorem sc_palette_for : FnScope ["picture", "many", "boxes", "told", "at", "box"] ["picture", "many"] (defScope (topS 23)) := ⟨rfl, rfl, rfl, by decide +kernel, rfl, by decide +kernel, by decide +kernel⟩
theorem sc_is_whole : FnScope ["thing"] ["thing"] (defScope (topS 4)) := ⟨rfl, rfl, rfl, by decide +kernel, rfl, by decide +kernel, by decide +kernel⟩
theorem sc_is_part : FnScope ["thing"] ["thing"] (defScope (topS 5)) := ⟨rfl, rfl, rfl, by decide +kernel, rfl, by decide +kernel, by decide +kernel⟩
theorem sc_is_colour : FnScope ["thing", "one"] ["thing"] (defScope (topS 6)) := ⟨rfl, rfl, rfl, by decide +kernel, rfl, by decide +kernel, by decide +kernel⟩
theorem sc__law_palette_holds : FnScope ["_law_picture", "_law_many", "_law_palette", "_law_every", "_law_colour", "_law_spot", "_law_parts", "_law_count", "_law_one"] ["_law_picture", "_law_many"] (defScope (topS 31)) := ⟨rfl, rfl, rfl, by decide +kernel, rfl, by decide +kernel, by decide +kernel⟩
theorem sc_turned : FnScope ["picture", "width", "height", "cells", "x", "y"] ["picture"] (defScope (topS 12)) := ⟨rfl, rfl, rfl, by decide +kernel, rfl, by decide +kernel, by decide +kernel⟩
theorem sc_of_rows : FnScope ["rows", "row", "cell"] ["rows"] (defScope (topS 11)) := ⟨rfl, rfl, rfl, by decide +kernel, rfl, by decide +kernel, by decide +kernel⟩
theorem sc_rows_of : FnScope ["picture", "width", "height", "cells", "y"] ["picture"] (defScope (topS 10)) := ⟨rfl, rfl, rfl, by decide +kernel, rfl, by decide +kernel, by decide +kernel⟩
theorem sc_mirrored : FnScope ["picture", "row"] ["picture"] (defScope (topS 13)) := ⟨rfl, rfl, rfl, by decide +kernel, rfl, by decide +kernel, by decide +kernel⟩
theorem sc_law : FnScope ["_law_script", "_law_town", "_law_k", "_law_width", "_law_height", "_law_picture", "_law_palette", "_law_more", "_law_many", "_law_told", "_law_j"] ["_law_script"] (defScope (topS 32)) := ⟨rfl, rfl, rfl, by decide +kernel, rfl, by decide +kernel, by decide +kernel⟩
def keyT_cut_box : LT := keyOf "cut_box" (defBody (topS 21)) ["pair"] ["part"]
section
variable {P : Program} {w : World} {K : PySem.W.Frag} {mg : Str → Option Value} {base : Heap}
theorem body__law_draw (h : Hd K mg) : Bdy P w K mg base ["_law_script", "_law_town", "_law_many", "_law_k", "_law_cell", "_law_digits", "_law_number", "_law_more"] 3 "_law_draw" (topS 26) 0 m__law_draw := by
  intro f cdv A outer s H E hr
  have hN := sc__law_draw.nd
  have hu := hr.units
  have hc : (cxOf (L2.CX P w) P w K mg base ["_law_script", "_law_town", "_law_many", "_law_k", "_law_cell", "_law_digits", "_law_number", "_law_more"] "_law_draw" (defScope (topS 26)) f cdv A outer s H E).calm = true := rfl
  have tk : Takes (cxOf (L2.CX P w) P w K mg base ["_law_script", "_law_town", "_law_many", "_law_k", "_law_cell", "_law_digits", "_law_number", "_law_more"] "_law_draw" (defScope (topS 26)) f cdv A outer s H E) (fun cls d _ H => E cls d H) := takes_of rfl rfl rfl rfl
  have hp : PassesOwn (model P w) (cxOf (L2.CX P w) P w K mg base ["_law_script", "_law_town", "_law_many", "_law_k", "_law_cell", "_law_digits", "_law_number", "_law_more"] "_law_draw" (defScope (topS 26)) f cdv A outer s H E).A (cxOf (L2.CX P w) P w K mg base ["_law_script", "_law_town", "_law_many", "_law_k", "_law_cell", "_law_digits", "_law_number", "_law_more"] "_law_draw" (defScope (topS 26)) f cdv A outer s H E).env (cxOf (L2.CX P w) P w K mg base ["_law_script", "_law_town", "_law_many", "_law_k", "_law_cell", "_law_digits", "_law_number", "_law_more"] "_law_draw" (defScope (topS 26)) f cdv A outer s H E).xe := passes_of rfl
  exact ⟨_, (ms_cons (ms_if (mt_not (mt_tw 1)) (ms_one (ms_twApp 1 (m_max hc hu (mr_cons (r_of (m_bin op_addM so_add ot_add (r_of (m_lc hc hN (mi_of (m_var 0)) (own := [("_law_cell", 4)]) (blkOk_by (by kernel_rfl)) (by decide) (fun _ _ _ _ _ => (mgn 4 hN)) (fun _ _ _ _ _ => (m_abs (mr_cons (r_of (m_var 4)) mr_nil) h.n_abs)))) (r_of (m_lst (n := 1) (ma_cons m_int ma_nil) (cnt_cons cnt_nil))))) mr_nil) h.n_max))) ms_nil)
    (ms_cons (ms_twApp 1 m_int)
    (ms_cons (msv 3 hN (m_twLen 1 h.n_len))
    (ms_cons (msv 4 hN (m_if (mt_truth (r_of (m_var 0))) (m_ix (r_of (m_var 0)) (r_of (m_bin op_mod so_mod ot_mod (r_of (m_var 3)) (r_of (m_len (mr_cons (r_of (m_var 0)) mr_nil) h.n_len))))) m_int))
    (ms_cons (msv 5 hN (m_bin op_mod so_mod ot_mod (r_of (m_twAt0 1)) (r_of m_int)))
    (ms_cons (ms_twSet 1 (m_bin op_fdiv so_fdiv ot_fdiv (r_of (m_twAt0 1)) (r_of m_int)))
    (ms_cons (msv 6 hN (m_bin op_mod so_mod ot_mod (r_of (m_bin op_addM so_add ot_add (r_of (m_bin op_addM so_add ot_add (r_of (m_var 4)) (r_of (m_bin op_mulM so_mul ot_mul (r_of m_int) (r_of (m_var 5)))))) (r_of (m_bin op_mulM so_mul ot_mul (r_of m_int) (r_of (m_var 3)))))) (r_of m_int)))
    (ms_cons (msv 6 hN (m_bin op_mod so_mod ot_mod (r_of (m_bin op_mulM so_mul ot_mul (r_of (m_bin op_mod so_mod ot_mod (r_of (m_bin op_mulM so_mul ot_mul (r_of (m_var 6)) (r_of (m_var 6)))) (r_of m_int))) (r_of m_int))) (r_of m_int)))
    (ms_cons (msv 7 hN (m_bin op_mod so_mod ot_mod (r_of (m_bin op_mulM so_mul ot_mul (r_of (m_bin op_mod so_mod ot_mod (r_of (m_bin op_mulM so_mul ot_mul (r_of (m_var 6)) (r_of (m_var 6)))) (r_of m_int))) (r_of m_int))) (r_of m_int)))
    (ms_one (ms_ret (r_of (m_bin op_mod so_mod ot_mod (r_of (m_bin op_addM so_add ot_add (r_of (m_bin op_mulM so_mul ot_mul (r_of (m_bin op_fdiv so_fdiv ot_fdiv (r_of (m_var 6)) (r_of m_int))) (r_of m_int))) (r_of (m_bin op_fdiv so_fdiv ot_fdiv (r_of (m_var 7)) (r_of m_int))))) (r_of (m_var 2))))))))))))))), fun ds hl => match ds, hl with | [_, _, _], _ => by kernel_rfl⟩
theorem c__law_draw (h : Hd K mg) : Cal P w K mg base 1 "_law_draw" ["_law_script", "_law_town", "_law_many"] m__law_draw := cal_of h.d__law_draw sc__law_draw rfl (body__law_draw h )
theorem body__law_pick (h : Hd K mg) (h__law_draw : Cal P w K mg base 1 "_law_draw" ["_law_script", "_law_town", "_law_many"] m__law_draw) : Bdy P w K mg base ["_law_script", "_law_town", "_law_some"] 3 "_law_pick" (topS 27) 1 m__law_pick := by
  intro f cdv A outer s H E hr
  have hN := sc__law_pick.nd
  have hu := hr.units
  have hc : (cxOf (L2.CX P w) P w K mg base ["_law_script", "_law_town", "_law_some"] "_law_pick" (defScope (topS 27)) f cdv A outer s H E).calm = true := rfl
  have tk : Takes (cxOf (L2.CX P w) P w K mg base ["_law_script", "_law_town", "_law_some"] "_law_pick" (defScope (topS 27)) f cdv A outer s H E) (fun cls d _ H => E cls d H) := takes_of rfl rfl rfl rfl
  have hp : PassesOwn (model P w) (cxOf (L2.CX P w) P w K mg base ["_law_script", "_law_town", "_law_some"] "_law_pick" (defScope (topS 27)) f cdv A outer s H E).A (cxOf (L2.CX P w) P w K mg base ["_law_script", "_law_town", "_law_some"] "_law_pick" (defScope (topS 27)) f cdv A outer s H E).env (cxOf (L2.CX P w) P w K mg base ["_law_script", "_law_town", "_law_some"] "_law_pick" (defScope (topS 27)) f cdv A outer s H E).xe := passes_of rfl
  exact ⟨_, (ms_one (ms_ret (r_of (m_ix (r_of (m_var 2)) (r_of (m_cal (h__law_draw.mono (by omega)) rfl hr tk (ma_cons (m_var 0) (ma_cons (m_var 1) (ma_cons (m_len (mr_cons (r_of (m_var 2)) mr_nil) h.n_len) ma_nil))) (cnt_cons (cnt_cons (cnt_cons cnt_nil))))))))), fun ds hl => match ds, hl with | [_, _, _], _ => by kernel_rfl⟩
theorem c__law_pick (h : Hd K mg) (h__law_draw : Cal P w K mg base 1 "_law_draw" ["_law_script", "_law_town", "_law_many"] m__law_draw) : Cal P w K mg base 2 "_law_pick" ["_law_script", "_law_town", "_law_some"] m__law_pick := cal_of h.d__law_pick sc__law_pick rfl (body__law_pick h h__law_draw)
theorem body__law_drawn_colour (h : Hd K mg) (h__law_draw : Cal P w K mg base 1 "_law_draw" ["_law_script", "_law_town", "_law_many"] m__law_draw) (h__law_pick : Cal P w K mg base 2 "_law_pick" ["_law_script", "_law_town", "_law_some"] m__law_pick) : Bdy P w K mg base ["_law_script", "_law_town", "_law_some", "_law_parts", "_law_k"] 2 "_law_drawn_colour" (topS 28) 2 m__law_drawn_colour := by
  intro f cdv A outer s H E hr
  have hN := sc__law_drawn_colour.nd
  have hu := hr.units
  have hc : (cxOf (L2.CX P w) P w K mg base ["_law_script", "_law_town", "_law_some", "_law_parts", "_law_k"] "_law_drawn_colour" (defScope (topS 28)) f cdv A outer s H E).calm = true := rfl
  have tk : Takes (cxOf (L2.CX P w) P w K mg base ["_law_script", "_law_town", "_law_some", "_law_parts", "_law_k"] "_law_drawn_colour" (defScope (topS 28)) f cdv A outer s H E) (fun cls d _ H => E cls d H) := takes_of rfl rfl rfl rfl
  have hp : PassesOwn (model P w) (cxOf (L2.CX P w) P w K mg base ["_law_script", "_law_town", "_law_some", "_law_parts", "_law_k"] "_law_drawn_colour" (defScope (topS 28)) f cdv A outer s H E).A (cxOf (L2.CX P w) P w K mg base ["_law_script", "_law_town", "_law_some", "_law_parts", "_law_k"] "_law_drawn_colour" (defScope (topS 28)) f cdv A outer s H E).env (cxOf (L2.CX P w) P w K mg base ["_law_script", "_law_town", "_law_some", "_law_parts", "_law_k"] "_law_drawn_colour" (defScope (topS 28)) f cdv A outer s H E).xe := passes_of rfl
  exact ⟨_, (ms_cons (msv 2 hN (m_lst (n := 4) (ma_cons m_int (ma_cons m_int (ma_cons (m_cal (h__law_draw.mono (by omega)) rfl hr tk (ma_cons (m_var 0) (ma_cons (m_var 1) (ma_cons m_int ma_nil))) (cnt_cons (cnt_cons (cnt_cons cnt_nil)))) (ma_cons (m_cal (h__law_draw.mono (by omega)) rfl hr tk (ma_cons (m_var 0) (ma_cons (m_var 1) (ma_cons m_int ma_nil))) (cnt_cons (cnt_cons (cnt_cons cnt_nil)))) ma_nil)))) (cnt_c4 cnt_nil)))
    (ms_cons (ms_setLc (i := 3) hc hN rfl rfl (sw_true rfl rfl rfl rfl) (mi_range1 h.n_range (ma_cons m_int ma_nil) (cnt_cons cnt_nil)) (own := [("_law_k", 4)]) (blkOk_by (by kernel_rfl)) (by decide) (fun _ _ _ _ _ => (mgn 4 hN)) (fun _ _ _ _ _ => (m_cal (h__law_pick.mono (by omega)) rfl hr takes0 (ma_cons (m_var 0) (ma_cons (m_var 1) (ma_cons (m_var 2) ma_nil))) (cnt_cons (cnt_cons (cnt_cons cnt_nil))))))
    (ms_one (ms_ret (r_of (m_tup (n := 4) (ma_cons (m_ix (r_of (m_var 3)) (r_of m_int)) (ma_cons (m_ix (r_of (m_var 3)) (r_of m_int)) (ma_cons (m_ix (r_of (m_var 3)) (r_of m_int)) (ma_cons (m_cal (h__law_pick.mono (by omega)) rfl hr tk (ma_cons (m_var 0) (ma_cons (m_var 1) (ma_cons (m_lst (n := 4) (ma_cons m_int (ma_cons m_int (ma_cons m_int (ma_cons (m_cal (h__law_draw.mono (by omega)) rfl hr tk (ma_cons (m_var 0) (ma_cons (m_var 1) (ma_cons m_int ma_nil))) (cnt_cons (cnt_cons (cnt_cons cnt_nil)))) ma_nil)))) (cnt_c4 cnt_nil)) ma_nil))) (cnt_cons (cnt_cons (cnt_cons cnt_nil)))) ma_nil)))) (cnt_c4 cnt_nil))))))), fun ds hl => match ds, hl with | [_, _], _ => by kernel_rfl⟩
theorem c__law_drawn_colour (h : Hd K mg) (h__law_draw : Cal P w K mg base 1 "_law_draw" ["_law_script", "_law_town", "_law_many"] m__law_draw) (h__law_pick : Cal P w K mg base 2 "_law_pick" ["_law_script", "_law_town", "_law_some"] m__law_pick) : Cal P w K mg base 3 "_law_drawn_colour" ["_law_script", "_law_town"] m__law_drawn_colour := cal_of h.d__law_drawn_colour sc__law_drawn_colour rfl (body__law_drawn_colour h h__law_draw h__law_pick)
theorem body__law_drawn_picture (h : Hd K mg) (h__law_drawn_colour : Cal P w K mg base 3 "_law_drawn_colour" ["_law_script", "_law_town"] m__law_drawn_colour) (h__law_pick : Cal P w K mg base 2 "_law_pick" ["_law_script", "_law_town", "_law_some"] m__law_pick) : Bdy P w K mg base ["_law_script", "_law_town", "_law_width", "_law_height", "_law_many", "_law_some", "_law_k"] 5 "_law_drawn_picture" (topS 29) 3 m__law_drawn_picture := by
  intro f cdv A outer s H E hr
  have hN := sc__law_drawn_picture.nd
  have hu := hr.units
  have hc : (cxOf (L2.CX P w) P w K mg base ["_law_script", "_law_town", "_law_width", "_law_height", "_law_many", "_law_some", "_law_k"] "_law_drawn_picture" (defScope (topS 29)) f cdv A outer s H E).calm = true := rfl
  have tk : Takes (cxOf (L2.CX P w) P w K mg base ["_law_script", "_law_town", "_law_width", "_law_height", "_law_many", "_law_some", "_law_k"] "_law_drawn_picture" (defScope (topS 29)) f cdv A outer s H E) (fun cls d _ H => E cls d H) := takes_of rfl rfl rfl rfl
  have hp : PassesOwn (model P w) (cxOf (L2.CX P w) P w K mg base ["_law_script", "_law_town", "_law_width", "_law_height", "_law_many", "_law_some", "_law_k"] "_law_drawn_picture" (defScope (topS 29)) f cdv A outer s H E).A (cxOf (L2.CX P w) P w K mg base ["_law_script", "_law_town", "_law_width", "_law_height", "_law_many", "_law_some", "_law_k"] "_law_drawn_picture" (defScope (topS 29)) f cdv A outer s H E).env (cxOf (L2.CX P w) P w K mg base ["_law_script", "_law_town", "_law_width", "_law_height", "_law_many", "_law_some", "_law_k"] "_law_drawn_picture" (defScope (topS 29)) f cdv A outer s H E).xe := passes_of rfl
  exact ⟨_, (ms_cons (msv 5 hN (m_lc hc hN (mi_range1 h.n_range (ma_cons (m_var 4) ma_nil) (cnt_cons cnt_nil)) (own := [("_law_k", 6)]) (blkOk_by (by kernel_rfl)) (by decide) (fun _ _ _ _ _ => (mgn 6 hN)) (fun _ _ _ _ _ => (m_cal (h__law_drawn_colour.mono (by omega)) rfl hr takes0 (ma_cons (m_var 0) (ma_cons (m_var 1) ma_nil)) (cnt_cons (cnt_cons cnt_nil))))))
    (ms_one (ms_ret (r_of (m_tup (n := 3) (ma_cons (m_var 2) (ma_cons (m_var 3) (ma_cons (m_tuple (mr_cons (r_of (m_lc hc hN (mi_range1 h.n_range (ma_cons (m_bin op_mulM so_mul ot_mul (r_of (m_var 2)) (r_of (m_var 3))) ma_nil) (cnt_cons cnt_nil)) (own := [("_law_k", 6)]) (blkOk_by (by kernel_rfl)) (by decide) (fun _ _ _ _ _ => (mgn 6 hN)) (fun _ _ _ _ _ => (m_cal (h__law_pick.mono (by omega)) rfl hr takes0 (ma_cons (m_var 0) (ma_cons (m_var 1) (ma_cons (m_var 5) ma_nil))) (cnt_cons (cnt_cons (cnt_cons cnt_nil))))))) mr_nil) h.n_tuple) ma_nil))) (cnt_cons (cnt_cons (cnt_cons cnt_nil)))))))), fun ds hl => match ds, hl with | [_, _, _, _, _], _ => by kernel_rfl⟩
theorem c__law_drawn_picture (h : Hd K mg) (h__law_drawn_colour : Cal P w K mg base 3 "_law_drawn_colour" ["_law_script", "_law_town"] m__law_drawn_colour) (h__law_pick : Cal P w K mg base 2 "_law_pick" ["_law_script", "_law_town", "_law_some"] m__law_pick) : Cal P w K mg base 4 "_law_drawn_picture" ["_law_script", "_law_town", "_law_width", "_law_height", "_law_many"] m__law_drawn_picture := cal_of h.d__law_drawn_picture sc__law_drawn_picture rfl (body__law_drawn_picture h h__law_drawn_colour h__law_pick)
theorem body_colours_of (h : Hd K mg) : Bdy P w K mg base ["picture", "found", "cell"] 1 "colours_of" (topS 16) 0 m_colours_of := by
  intro f cdv A outer s H E hr
  have hN := sc_colours_of.nd
  have hu := hr.units
  have hc : (cxOf (L2.CX P w) P w K mg base ["picture", "found", "cell"] "colours_of" (defScope (topS 16)) f cdv A outer s H E).calm = true := rfl
  have tk : Takes (cxOf (L2.CX P w) P w K mg base ["picture", "found", "cell"] "colours_of" (defScope (topS 16)) f cdv A outer s H E) (fun cls d _ H => E cls d H) := takes_of rfl rfl rfl rfl
  have hp : PassesOwn (model P w) (cxOf (L2.CX P w) P w K mg base ["picture", "found", "cell"] "colours_of" (defScope (topS 16)) f cdv A outer s H E).A (cxOf (L2.CX P w) P w K mg base ["picture", "found", "cell"] "colours_of" (defScope (topS 16)) f cdv A outer s H E).env (cxOf (L2.CX P w) P w K mg base ["picture", "found", "cell"] "colours_of" (defScope (topS 16)) f cdv A outer s H E).xe := passes_of rfl
  exact ⟨_, (ms_cons (mso 1 hN mf_dT)
    (ms_cons (ms_for [0, 2] (fun (e : Unit) (st : D) => [.no, .ow st, .no]) (fun sl => match sl with | [.no, .ow p1, .no] => some ((), p1) | _ => none) (fun e => l0_colours_of) hp (mi_of (m_ix (r_of (m_var 0)) (r_of m_int))) (mgn 2 hN) (ms_one (ms_putX 1 hu h.nt (m_var 2) (m_bin op_addM so_add ot_add (r_of (m_getX hu h.nt (r_var 1) (m_var 2) m_int)) (r_of m_int)))) (by intros; kernel_rfl) (by intro sl e st h; (try dsimp only at h); split at h <;> cases h <;> rfl))
    (ms_frz 1 (ms_one (ms_ret (r_of (m_tuple (mr_cons (r_of (m_sortD hu (mr_cons (r_of (m_itemsL hc (r_of (m_var 1)) h.n_list)) mr_nil) h.n_sorted)) mr_nil) h.n_tuple))))))), fun ds hl => match ds, hl with | [_], _ => by kernel_rfl⟩
theorem c_colours_of (h : Hd K mg) : Cal P w K mg base 1 "colours_of" ["picture"] m_colours_of := cal_of h.d_colours_of sc_colours_of rfl (body_colours_of h )
theorem body_distance (h : Hd K mg) : Bdy P w K mg base ["one", "other", "left", "right"] 2 "distance" (topS 8) 0 m_distance := by
  intro f cdv A outer s H E hr
  have hN := sc_distance.nd
  have hu := hr.units
  have hc : (cxOf (L2.CX P w) P w K mg base ["one", "other", "left", "right"] "distance" (defScope (topS 8)) f cdv A outer s H E).calm = true := rfl
  have tk : Takes (cxOf (L2.CX P w) P w K mg base ["one", "other", "left", "right"] "distance" (defScope (topS 8)) f cdv A outer s H E) (fun cls d _ H => E cls d H) := takes_of rfl rfl rfl rfl
  have hp : PassesOwn (model P w) (cxOf (L2.CX P w) P w K mg base ["one", "other", "left", "right"] "distance" (defScope (topS 8)) f cdv A outer s H E).A (cxOf (L2.CX P w) P w K mg base ["one", "other", "left", "right"] "distance" (defScope (topS 8)) f cdv A outer s H E).env (cxOf (L2.CX P w) P w K mg base ["one", "other", "left", "right"] "distance" (defScope (topS 8)) f cdv A outer s H E).xe := passes_of rfl
  exact ⟨_, (ms_one (ms_ret (r_of (m_sum hc (mr_cons (r_of (m_lc hc hN (mi_zip h.n_zip (ma_cons (m_var 0) (ma_cons (m_var 1) ma_nil))) (own := [("left", 2), ("right", 3)]) (blkOk_by (by kernel_rfl)) (by decide) (fun _ _ _ _ _ => (mg_tup2 hc (mgn 2 hN) (mgn 3 hN))) (fun _ _ _ _ _ => (m_bin op_mulM so_mul ot_mul (r_of (m_bin op_sub so_sub ot_sub (r_of (m_var 2)) (r_of (m_var 3)))) (r_of (m_bin op_sub so_sub ot_sub (r_of (m_var 2)) (r_of (m_var 3)))))))) mr_nil) h.n_sum)))), fun ds hl => match ds, hl with | [_, _], _ => by kernel_rfl⟩
theorem c_distance (h : Hd K mg) : Cal P w K mg base 1 "distance" ["one", "other"] m_distance := cal_of h.d_distance sc_distance rfl (body_distance h )
theorem body_nearest (h : Hd K mg) (h_distance : Cal P w K mg base 1 "distance" ["one", "other"] m_distance) : Bdy P w K mg base ["palette", "colour", "far", "one"] 2 "nearest" (topS 17) 1 m_nearest := by
  intro f cdv A outer s H E hr
  have hN := sc_nearest.nd
  have hu := hr.units
  have hc : (cxOf (L2.CX P w) P w K mg base ["palette", "colour", "far", "one"] "nearest" (defScope (topS 17)) f cdv A outer s H E).calm = true := rfl
  have tk : Takes (cxOf (L2.CX P w) P w K mg base ["palette", "colour", "far", "one"] "nearest" (defScope (topS 17)) f cdv A outer s H E) (fun cls d _ H => E cls d H) := takes_of rfl rfl rfl rfl
  have hp : PassesOwn (model P w) (cxOf (L2.CX P w) P w K mg base ["palette", "colour", "far", "one"] "nearest" (defScope (topS 17)) f cdv A outer s H E).A (cxOf (L2.CX P w) P w K mg base ["palette", "colour", "far", "one"] "nearest" (defScope (topS 17)) f cdv A outer s H E).env (cxOf (L2.CX P w) P w K mg base ["palette", "colour", "far", "one"] "nearest" (defScope (topS 17)) f cdv A outer s H E).xe := passes_of rfl
  exact ⟨_, (ms_cons (ms_setLc (i := 2) hc hN rfl rfl (sw_true rfl rfl rfl rfl) (mi_of (m_var 0)) (own := [("one", 3)]) (blkOk_by (by kernel_rfl)) (by decide) (fun _ _ _ _ _ => (mgn 3 hN)) (fun _ _ _ _ _ => (m_cal (h_distance.mono (by omega)) rfl hr takes0 (ma_cons (m_var 3) (ma_cons (m_var 1) ma_nil)) (cnt_cons (cnt_cons cnt_nil)))))
    (ms_one (ms_ret (r_of (m_lindex (un65 hr) (r_of (m_var 2)) (m_min hc hu (mr_cons (r_of (m_var 2)) mr_nil) h.n_min)))))), fun ds hl => match ds, hl with | [_, _], _ => by kernel_rfl⟩
theorem c_nearest (h : Hd K mg) (h_distance : Cal P w K mg base 1 "distance" ["one", "other"] m_distance) : Cal P w K mg base 2 "nearest" ["palette", "colour"] m_nearest := cal_of h.d_nearest sc_nearest rfl (body_nearest h h_distance)
theorem body_in_few (h : Hd K mg) (h_colours_of : Cal P w K mg base 1 "colours_of" ["picture"] m_colours_of) (h_nearest : Cal P w K mg base 2 "nearest" ["palette", "colour"] m_nearest) : Bdy P w K mg base ["picture", "palette", "table", "colour", "many", "cell"] 2 "in_few" (topS 18) 2 m_in_few := by
  intro f cdv A outer s H E hr
  have hN := sc_in_few.nd
  have hu := hr.units
  have hc : (cxOf (L2.CX P w) P w K mg base ["picture", "palette", "table", "colour", "many", "cell"] "in_few" (defScope (topS 18)) f cdv A outer s H E).calm = true := rfl
  have tk : Takes (cxOf (L2.CX P w) P w K mg base ["picture", "palette", "table", "colour", "many", "cell"] "in_few" (defScope (topS 18)) f cdv A outer s H E) (fun cls d _ H => E cls d H) := takes_of rfl rfl rfl rfl
  have hp : PassesOwn (model P w) (cxOf (L2.CX P w) P w K mg base ["picture", "palette", "table", "colour", "many", "cell"] "in_few" (defScope (topS 18)) f cdv A outer s H E).A (cxOf (L2.CX P w) P w K mg base ["picture", "palette", "table", "colour", "many", "cell"] "in_few" (defScope (topS 18)) f cdv A outer s H E).env (cxOf (L2.CX P w) P w K mg base ["picture", "palette", "table", "colour", "many", "cell"] "in_few" (defScope (topS 18)) f cdv A outer s H E).xe := passes_of rfl
  exact ⟨_, (ms_cons (msv 2 hN (m_dcT hc hu h.nt hN (mi_of (m_cal (h_colours_of.mono (by omega)) rfl hr tk (ma_cons (m_var 0) ma_nil) (cnt_cons cnt_nil))) (own := [("colour", 3), ("many", 4)]) (blkOk_by (by kernel_rfl)) (by decide) (fun _ _ _ _ _ => (mg_tup2 hc (mgn 3 hN) (mgn 4 hN))) (fun _ _ _ _ _ => (m_var 3)) (fun _ _ _ _ _ => (m_ix (r_of (m_var 1)) (r_of (m_cal (h_nearest.mono (by omega)) rfl hr takes0 (ma_cons (m_var 1) (ma_cons (m_var 3) ma_nil)) (cnt_cons (cnt_cons cnt_nil))))))))
    (ms_one (ms_ret (r_of (m_bin op_addM so_add ot_add (r_of (m_sl (r_of (m_var 0)) mo_none (mo_some m_int))) (r_of (m_tup (n := 1) (ma_cons (m_tuple (mr_cons (r_of (m_lc hc hN (mi_of (m_ix (r_of (m_var 0)) (r_of m_int))) (own := [("cell", 5)]) (blkOk_by (by kernel_rfl)) (by decide) (fun _ _ _ _ _ => (mgn 5 hN)) (fun _ _ _ _ _ => (m_ixT hu h.nt (r_of (m_var 2)) (m_var 5))))) mr_nil) h.n_tuple) ma_nil) (cnt_cons cnt_nil)))))))), fun ds hl => match ds, hl with | [_, _], _ => by kernel_rfl⟩
theorem c_in_few (h : Hd K mg) (h_colours_of : Cal P w K mg base 1 "colours_of" ["picture"] m_colours_of) (h_nearest : Cal P w K mg base 2 "nearest" ["palette", "colour"] m_nearest) : Cal P w K mg base 3 "in_few" ["picture", "palette"] m_in_few := cal_of h.d_in_few sc_in_few rfl (body_in_few h h_colours_of h_nearest)
theorem body_must_be_as_great (h : Hd K mg) : Bdy P w K mg base ["one", "other"] 2 "must_be_as_great" (topS 14) 0 m_must_be_as_great := by
  intro f cdv A outer s H E hr
  have hN := sc_must_be_as_great.nd
  have hu := hr.units
  have hc : (cxOf (L2.CX P w) P w K mg base ["one", "other"] "must_be_as_great" (defScope (topS 14)) f cdv A outer s H E).calm = true := rfl
  have tk : Takes (cxOf (L2.CX P w) P w K mg base ["one", "other"] "must_be_as_great" (defScope (topS 14)) f cdv A outer s H E) (fun cls d _ H => E cls d H) := takes_of rfl rfl rfl rfl
  have hp : PassesOwn (model P w) (cxOf (L2.CX P w) P w K mg base ["one", "other"] "must_be_as_great" (defScope (topS 14)) f cdv A outer s H E).A (cxOf (L2.CX P w) P w K mg base ["one", "other"] "must_be_as_great" (defScope (topS 14)) f cdv A outer s H E).env (cxOf (L2.CX P w) P w K mg base ["one", "other"] "must_be_as_great" (defScope (topS 14)) f cdv A outer s H E).xe := passes_of rfl
  exact ⟨_, (ms_one (ms_if (mt_cmp (op_neM hu) so_ne ot_ne (r_of (m_sl (r_of (m_var 0)) mo_none (mo_some m_int))) (r_of (m_sl (r_of (m_var 1)) mo_none (mo_some m_int)))) (ms_one (ms_raiseX h.x_Uneven tk)) ms_nil)), fun ds hl => match ds, hl with | [_, _], _ => by kernel_rfl⟩
theorem c_must_be_as_great (h : Hd K mg) : Cal P w K mg base 1 "must_be_as_great" ["one", "other"] m_must_be_as_great := cal_of h.d_must_be_as_great sc_must_be_as_great rfl (body_must_be_as_great h )
theorem body_faults (h : Hd K mg) (h_must_be_as_great : Cal P w K mg base 1 "must_be_as_great" ["one", "other"] m_must_be_as_great) (h_distance : Cal P w K mg base 1 "distance" ["one", "other"] m_distance) : Bdy P w K mg base ["one", "other", "left", "right"] 2 "faults" (topS 19) 1 m_faults := by
  intro f cdv A outer s H E hr
  have hN := sc_faults.nd
  have hu := hr.units
  have hc : (cxOf (L2.CX P w) P w K mg base ["one", "other", "left", "right"] "faults" (defScope (topS 19)) f cdv A outer s H E).calm = true := rfl
  have tk : Takes (cxOf (L2.CX P w) P w K mg base ["one", "other", "left", "right"] "faults" (defScope (topS 19)) f cdv A outer s H E) (fun cls d _ H => E cls d H) := takes_of rfl rfl rfl rfl
  have hp : PassesOwn (model P w) (cxOf (L2.CX P w) P w K mg base ["one", "other", "left", "right"] "faults" (defScope (topS 19)) f cdv A outer s H E).A (cxOf (L2.CX P w) P w K mg base ["one", "other", "left", "right"] "faults" (defScope (topS 19)) f cdv A outer s H E).env (cxOf (L2.CX P w) P w K mg base ["one", "other", "left", "right"] "faults" (defScope (topS 19)) f cdv A outer s H E).xe := passes_of rfl
  exact ⟨_, (ms_cons (ms_expr (r_of (m_cal (h_must_be_as_great.mono (by omega)) rfl hr tk (ma_cons (m_var 0) (ma_cons (m_var 1) ma_nil)) (cnt_cons (cnt_cons cnt_nil)))))
    (ms_one (ms_ret (r_of (m_sum hc (mr_cons (r_of (m_lc hc hN (mi_zip h.n_zip (ma_cons (m_ix (r_of (m_var 0)) (r_of m_int)) (ma_cons (m_ix (r_of (m_var 1)) (r_of m_int)) ma_nil))) (own := [("left", 2), ("right", 3)]) (blkOk_by (by kernel_rfl)) (by decide) (fun _ _ _ _ _ => (mg_tup2 hc (mgn 2 hN) (mgn 3 hN))) (fun _ _ _ _ _ => (m_cal (h_distance.mono (by omega)) rfl hr takes0 (ma_cons (m_var 2) (ma_cons (m_var 3) ma_nil)) (cnt_cons (cnt_cons cnt_nil)))))) mr_nil) h.n_sum))))), fun ds hl => match ds, hl with | [_, _], _ => by kernel_rfl⟩
theorem c_faults (h : Hd K mg) (h_must_be_as_great : Cal P w K mg base 1 "must_be_as_great" ["one", "other"] m_must_be_as_great) (h_distance : Cal P w K mg base 1 "distance" ["one", "other"] m_distance) : Cal P w K mg base 2 "faults" ["one", "other"] m_faults := cal_of h.d_faults sc_faults rfl (body_faults h h_must_be_as_great h_distance)
theorem body__law_few_holds (h : Hd K mg) (h_in_few : Cal P w K mg base 3 "in_few" ["picture", "palette"] m_in_few) (h_distance : Cal P w K mg base 1 "distance" ["one", "other"] m_distance) (h_nearest : Cal P w K mg base 2 "nearest" ["palette", "colour"] m_nearest) (h_faults : Cal P w K mg base 2 "faults" ["one", "other"] m_faults) : Bdy P w K mg base ["_law_picture", "_law_palette", "_law_new", "_law_cell", "_law_other", "_law_one"] 2 "_law_few_holds" (topS 30) 3 m__law_few_holds := by
  intro f cdv A outer s H E hr
  have hN := sc__law_few_holds.nd
  have hu := hr.units
  have hc : (cxOf (L2.CX P w) P w K mg base ["_law_picture", "_law_palette", "_law_new", "_law_cell", "_law_other", "_law_one"] "_law_few_holds" (defScope (topS 30)) f cdv A outer s H E).calm = true := rfl
  have tk : Takes (cxOf (L2.CX P w) P w K mg base ["_law_picture", "_law_palette", "_law_new", "_law_cell", "_law_other", "_law_one"] "_law_few_holds" (defScope (topS 30)) f cdv A outer s H E) (fun cls d _ H => E cls d H) := takes_of rfl rfl rfl rfl
  have hp : PassesOwn (model P w) (cxOf (L2.CX P w) P w K mg base ["_law_picture", "_law_palette", "_law_new", "_law_cell", "_law_other", "_law_one"] "_law_few_holds" (defScope (topS 30)) f cdv A outer s H E).A (cxOf (L2.CX P w) P w K mg base ["_law_picture", "_law_palette", "_law_new", "_law_cell", "_law_other", "_law_one"] "_law_few_holds" (defScope (topS 30)) f cdv A outer s H E).env (cxOf (L2.CX P w) P w K mg base ["_law_picture", "_law_palette", "_law_new", "_law_cell", "_law_other", "_law_one"] "_law_few_holds" (defScope (topS 30)) f cdv A outer s H E).xe := passes_of rfl
  exact ⟨_, (ms_cons (msv 2 hN (m_cal (h_in_few.mono (by omega)) rfl hr tk (ma_cons (m_var 0) (ma_cons (m_var 1) ma_nil)) (cnt_cons (cnt_cons cnt_nil))))
    (ms_cons (ms_if (mt_w (mw_or (mt_cmp (op_neM hu) so_ne ot_ne (r_of (m_sl (r_of (m_var 2)) mo_none (mo_some m_int))) (r_of (m_sl (r_of (m_var 0)) mo_none (mo_some m_int)))) (mw_or1 (mt_truth (r_of (m_lcf hc hN (mi_of (m_ix (r_of (m_var 2)) (r_of m_int))) (own := [("_law_cell", 3)]) (blkOk_by (by kernel_rfl)) (by decide) (fun _ _ _ _ _ => (mgn 3 hN)) (fun _ _ _ _ _ => (mt_cmp (op_ninM (un65 hr)) so_nin ot_nin (r_of (m_var 3)) (r_of (m_var 1)))) (fun _ _ _ _ _ => (m_var 3)))))))) (ms_one (ms_ret (r_of m_bl))) ms_nil)
    (ms_cons (ms_if (mt_cmp (op_neM hu) so_ne ot_ne (r_of (m_cal (h_in_few.mono (by omega)) rfl hr tk (ma_cons (m_var 2) (ma_cons (m_var 1) ma_nil)) (cnt_cons (cnt_cons cnt_nil)))) (r_of (m_var 2))) (ms_one (ms_ret (r_of m_bl))) ms_nil)
    (ms_cons (ms_for [3, 4, 5] (fun (e : D × D × D) (st : Unit) => [.va e.1, .va e.2.1, .va e.2.2, .no, .no, .no]) (fun sl => match sl with | [.va p0, .va p1, .va p2, .no, .no, .no] => some ((p0, p1, p2), ()) | _ => none) (fun e => l0__law_few_holds e.1 e.2.1 e.2.2) hp (mi_zip h.n_zip (ma_cons (m_ix (r_of (m_var 0)) (r_of m_int)) (ma_cons (m_ix (r_of (m_var 2)) (r_of m_int)) ma_nil))) (mg_tup2 hc (mgn 3 hN) (mgn 4 hN)) (ms_cons (ms_if (mt_truth (r_of (m_lcf hc hN (mi_of (m_var 1)) (own := [("_law_one", 5)]) (blkOk_by (by kernel_rfl)) (by decide) (fun _ _ _ _ _ => (mgn 5 hN)) (fun _ _ _ _ _ => (mt_cmp op_lt so_lt ot_lt (r_of (m_cal (h_distance.mono (by omega)) rfl hr takes0 (ma_cons (m_var 5) (ma_cons (m_var 3) ma_nil)) (cnt_cons (cnt_cons cnt_nil)))) (r_of (m_cal (h_distance.mono (by omega)) rfl hr takes0 (ma_cons (m_var 4) (ma_cons (m_var 3) ma_nil)) (cnt_cons (cnt_cons cnt_nil)))))) (fun _ _ _ _ _ => (m_var 5))))) (ms_one (ms_ret (r_of m_bl))) ms_nil)
    (ms_one (ms_if (mt_cmp (op_neM hu) so_ne ot_ne (r_of (m_ix (r_of (m_var 1)) (r_of (m_cal (h_nearest.mono (by omega)) rfl hr tk (ma_cons (m_var 1) (ma_cons (m_var 3) ma_nil)) (cnt_cons (cnt_cons cnt_nil)))))) (r_of (m_var 4))) (ms_one (ms_ret (r_of m_bl))) ms_nil))) (by intros; kernel_rfl) (by intro sl e st h; (try dsimp only at h); split at h <;> cases h <;> rfl))
    (ms_one (ms_ret (r_of (m_and (m_cmp (op_eqM hu) so_eq ot_eq (r_of (m_cal (h_faults.mono (by omega)) rfl hr tk (ma_cons (m_var 0) (ma_cons (m_var 0) ma_nil)) (cnt_cons (cnt_cons cnt_nil)))) (r_of m_int)) (m_one (m_cmp (op_eqM hu) so_eq ot_eq (r_of (m_cal (h_faults.mono (by omega)) rfl hr tk (ma_cons (m_var 0) (ma_cons (m_var 2) ma_nil)) (cnt_cons (cnt_cons cnt_nil)))) (r_of (m_cal (h_faults.mono (by omega)) rfl hr tk (ma_cons (m_var 2) (ma_cons (m_var 0) ma_nil)) (cnt_cons (cnt_cons cnt_nil)))))))))))))), fun ds hl => match ds, hl with | [_, _], _ => by kernel_rfl⟩
theorem c__law_few_holds (h : Hd K mg) (h_in_few : Cal P w K mg base 3 "in_few" ["picture", "palette"] m_in_few) (h_distance : Cal P w K mg base 1 "distance" ["one", "other"] m_distance) (h_nearest : Cal P w K mg base 2 "nearest" ["palette", "colour"] m_nearest) (h_faults : Cal P w K mg base 2 "faults" ["one", "other"] m_faults) : Cal P w K mg base 4 "_law_few_holds" ["_law_picture", "_law_palette"] m__law_few_holds := cal_of h.d__law_few_holds sc__law_few_holds rfl (body__law_few_holds h h_in_few h_distance h_nearest h_faults)
theorem body_spreads (h : Hd K mg) : Bdy P w K mg base ["box", "found", "at", "parts", "colour", "many"] 1 "spreads" (topS 20) 0 m_spreads := by
  intro f cdv A outer s H E hr
  have hN := sc_spreads.nd
  have hu := hr.units
  have hc : (cxOf (L2.CX P w) P w K mg base ["box", "found", "at", "parts", "colour", "many"] "spreads" (defScope (topS 20)) f cdv A outer s H E).calm = true := rfl
  have tk : Takes (cxOf (L2.CX P w) P w K mg base ["box", "found", "at", "parts", "colour", "many"] "spreads" (defScope (topS 20)) f cdv A outer s H E) (fun cls d _ H => E cls d H) := takes_of rfl rfl rfl rfl
  have hp : PassesOwn (model P w) (cxOf (L2.CX P w) P w K mg base ["box", "found", "at", "parts", "colour", "many"] "spreads" (defScope (topS 20)) f cdv A outer s H E).A (cxOf (L2.CX P w) P w K mg base ["box", "found", "at", "parts", "colour", "many"] "spreads" (defScope (topS 20)) f cdv A outer s H E).env (cxOf (L2.CX P w) P w K mg base ["box", "found", "at", "parts", "colour", "many"] "spreads" (defScope (topS 20)) f cdv A outer s H E).xe := passes_of rfl
  exact ⟨_, (ms_cons (mso 1 hN (mf_lst (n := 0) ma_nil cnt_nil))
    (ms_cons (ms_for [2, 3, 4, 5] (fun (e : D) (st : D) => [.va e, .ow st, .no, .no, .no, .no]) (fun sl => match sl with | [.va p0, .ow p1, .no, .no, .no, .no] => some (p0, p1) | _ => none) (fun e => l0_spreads e) hp (mi_range1 h.n_range (ma_cons m_int ma_nil) (cnt_cons cnt_nil)) (mgn 2 hN) (ms_cons (ms_setLc (i := 3) hc hN rfl rfl (sw_true rfl rfl rfl rfl) (mi_of (m_var 0)) (own := [("colour", 4), ("many", 5)]) (blkOk_by (by kernel_rfl)) (by decide) (fun _ _ _ _ _ => (mg_tup2 hc (mgn 4 hN) (mgn 5 hN))) (fun _ _ _ _ _ => (m_ix (r_of (m_var 4)) (r_of (m_var 2)))))
    (ms_one (ms_app 1 (m_bin op_sub so_sub ot_sub (r_of (m_max hc hu (mr_cons (r_of (m_var 3)) mr_nil) h.n_max)) (r_of (m_min hc hu (mr_cons (r_of (m_var 3)) mr_nil) h.n_min)))))) (by intros; kernel_rfl) (by intro sl e st h; (try dsimp only at h); split at h <;> cases h <;> rfl))
    (ms_one (ms_ret (r_var 1))))), fun ds hl => match ds, hl with | [_], _ => by kernel_rfl⟩
theorem c_spreads (h : Hd K mg) : Cal P w K mg base 1 "spreads" ["box"] m_spreads := cal_of h.d_spreads sc_spreads rfl (body_spreads h )
theorem body_cut_box (h : Hd K mg) (h_tbs : TBs K mg base) (h_spreads : Cal P w K mg base 1 "spreads" ["box"] m_spreads) : BdyM P w K mg base ["box", "told", "part", "rows", "total", "seen", "many", "colour", "count"] 1 "cut_box" (topS 21) 1 m_cut_box := by
  intro f c TT A outer s H E hct hr
  have hN := sc_cut_box.nd
  have hu := hr.units
  have hc : (cxOf (L2.CX P w) P w K mg base ["box", "told", "part", "rows", "total", "seen", "many", "colour", "count"] "cut_box" (defScope (topS 21)) f (.ref c) A outer s H E).calm = true := rfl
  have tk : Takes (cxOf (L2.CX P w) P w K mg base ["box", "told", "part", "rows", "total", "seen", "many", "colour", "count"] "cut_box" (defScope (topS 21)) f (.ref c) A outer s H E) (fun cls d _ H => E cls d H) := takes_of rfl rfl rfl rfl
  have hp : PassesOwn (model P w) (cxOf (L2.CX P w) P w K mg base ["box", "told", "part", "rows", "total", "seen", "many", "colour", "count"] "cut_box" (defScope (topS 21)) f (.ref c) A outer s H E).A (cxOf (L2.CX P w) P w K mg base ["box", "told", "part", "rows", "total", "seen", "many", "colour", "count"] "cut_box" (defScope (topS 21)) f (.ref c) A outer s H E).env (cxOf (L2.CX P w) P w K mg base ["box", "told", "part", "rows", "total", "seen", "many", "colour", "count"] "cut_box" (defScope (topS 21)) f (.ref c) A outer s H E).xe := passes_of rfl
  exact ⟨_, (ms_cons (msv 1 hN (m_cal (h_spreads.mono (by omega)) rfl hr tk (ma_cons (m_var 0) ma_nil) (cnt_cons cnt_nil)))
    (ms_cons (msv 2 hN (m_lindex (un65 hr) (r_of (m_var 1)) (m_max hc hu (mr_cons (r_of (m_var 1)) mr_nil) h.n_max)))
    (ms_cons (msv 3 hN (m_sortL (j := 2) (N0 := ["pair", "part"]) (T := keyT_cut_box) (Room.mono hr (by omega)) (mkr_by (x := "cut_box") (T := keyT_cut_box) hct h_tbs h.nd rfl rfl (by kernel_rfl) (by kernel_rfl) (by kernel_rfl) (by kernel_rfl) (by kernel_rfl) (by kernel_rfl) rfl (by kernel_rfl)) (NdefX.nscope_by (by kernel_rfl)) (by kernel_rfl) (fun _ _ _ _ _ _ => by kernel_rfl) (caps_by (T := keyT_cut_box) (by kernel_rfl) (by kernel_rfl) (by kernel_rfl)) (m_var 0) h.n_sorted))
    (ms_cons (ms_par3 hN (i := 4) (j := 5) (l := 6) rfl rfl rfl (by decide) (by decide) (by decide) rfl rfl rfl (mh_va (m_sum hc (mr_cons (r_of (m_lc hc hN (mi_of (m_var 0)) (own := [("colour", 7), ("count", 8)]) (blkOk_by (by kernel_rfl)) (by decide) (fun _ _ _ _ _ => (mg_tup2 hc (mgn 7 hN) (mgn 8 hN))) (fun _ _ _ _ _ => (m_var 8)))) mr_nil) h.n_sum) (mh_va m_int (mh_va m_int mh_nil))) (cnh_va (cnh_va (cnh_va cnh_nil))))
    (ms_cons (ms_while [0, 1, 2, 7, 8] wF (fun (e : D × D) (st : D × D) => [.no, .no, .no, .va e.1, .va e.2, .va st.1, .va st.2, .no, .no]) (fun sl => match sl with | [.no, .no, .no, .va p3, .va p4, .va p5, .va p6, .no, .no] => some ((p3, p4), (p5, p6)) | _ => none) (fun e => c0_cut_box e.1 e.2) (fun e => l0_cut_box e.1 e.2) hp (mt_w (mw_and (mt_cmp op_lt so_lt ot_lt (r_of (m_bin op_mulM so_mul ot_mul (r_of m_int) (r_of (m_var 5)))) (r_of (m_var 4))) (mw_and1 (mt_cmp op_lt so_lt ot_lt (r_of (m_var 6)) (r_of (m_bin op_sub so_sub ot_sub (r_of (m_len (mr_cons (r_of (m_var 3)) mr_nil) h.n_len)) (r_of m_int))))))) (ms_cons (ms_aug 5 hN (m_ix (r_of (m_ix (r_of (m_var 3)) (r_of (m_var 6)))) (r_of m_int)))
    (ms_one (ms_aug 6 hN m_int))) (by intros; kernel_rfl) (by intros; kernel_rfl) (by intro sl e st h; (try dsimp only at h); split at h <;> cases h <;> rfl))
    (ms_one (ms_ret (r_of (m_lst (n := 2) (ma_cons (m_sl (r_of (m_var 3)) mo_none (mo_some (m_var 6))) (ma_cons (m_sl (r_of (m_var 3)) (mo_some (m_var 6)) mo_none) ma_nil)) (cnt_cons (cnt_cons cnt_nil))))))))))), fun ds hl => match ds, hl with | [_], _ => by kernel_rfl⟩
theorem c_cut_box (h : Hd K mg) (h_tbs : TBs K mg base) (h_spreads : Cal P w K mg base 1 "spreads" ["box"] m_spreads) : Cal P w K mg base 2 "cut_box" ["box"] m_cut_box := cal_ofM h.d_cut_box sc_cut_box rfl (body_cut_box h h_tbs h_spreads)
theorem body_rounded (h : Hd K mg) : Bdy P w K mg base ["one", "by"] 2 "rounded" (topS 7) 0 m_rounded := by
  intro f cdv A outer s H E hr
  have hN := sc_rounded.nd
  have hu := hr.units
  have hc : (cxOf (L2.CX P w) P w K mg base ["one", "by"] "rounded" (defScope (topS 7)) f cdv A outer s H E).calm = true := rfl
  have tk : Takes (cxOf (L2.CX P w) P w K mg base ["one", "by"] "rounded" (defScope (topS 7)) f cdv A outer s H E) (fun cls d _ H => E cls d H) := takes_of rfl rfl rfl rfl
  have hp : PassesOwn (model P w) (cxOf (L2.CX P w) P w K mg base ["one", "by"] "rounded" (defScope (topS 7)) f cdv A outer s H E).A (cxOf (L2.CX P w) P w K mg base ["one", "by"] "rounded" (defScope (topS 7)) f cdv A outer s H E).env (cxOf (L2.CX P w) P w K mg base ["one", "by"] "rounded" (defScope (topS 7)) f cdv A outer s H E).xe := passes_of rfl
  exact ⟨_, (ms_one (ms_ret (r_of (m_bin op_fdiv so_fdiv ot_fdiv (r_of (m_bin op_addM so_add ot_add (r_of (m_bin op_mulM so_mul ot_mul (r_of m_int) (r_of (m_var 0)))) (r_of (m_var 1)))) (r_of (m_bin op_mulM so_mul ot_mul (r_of m_int) (r_of (m_var 1)))))))), fun ds hl => match ds, hl with | [_, _], _ => by kernel_rfl⟩
theorem c_rounded (h : Hd K mg) : Cal P w K mg base 1 "rounded" ["one", "by"] m_rounded := cal_of h.d_rounded sc_rounded rfl (body_rounded h )
theorem body_mean_of (h : Hd K mg) (h_rounded : Cal P w K mg base 1 "rounded" ["one", "by"] m_rounded) : Bdy P w K mg base ["box", "total", "colour", "many", "at"] 1 "mean_of" (topS 22) 1 m_mean_of := by
  intro f cdv A outer s H E hr
  have hN := sc_mean_of.nd
  have hu := hr.units
  have hc : (cxOf (L2.CX P w) P w K mg base ["box", "total", "colour", "many", "at"] "mean_of" (defScope (topS 22)) f cdv A outer s H E).calm = true := rfl
  have tk : Takes (cxOf (L2.CX P w) P w K mg base ["box", "total", "colour", "many", "at"] "mean_of" (defScope (topS 22)) f cdv A outer s H E) (fun cls d _ H => E cls d H) := takes_of rfl rfl rfl rfl
  have hp : PassesOwn (model P w) (cxOf (L2.CX P w) P w K mg base ["box", "total", "colour", "many", "at"] "mean_of" (defScope (topS 22)) f cdv A outer s H E).A (cxOf (L2.CX P w) P w K mg base ["box", "total", "colour", "many", "at"] "mean_of" (defScope (topS 22)) f cdv A outer s H E).env (cxOf (L2.CX P w) P w K mg base ["box", "total", "colour", "many", "at"] "mean_of" (defScope (topS 22)) f cdv A outer s H E).xe := passes_of rfl
  exact ⟨_, (ms_cons (msv 1 hN (m_sum hc (mr_cons (r_of (m_lc hc hN (mi_of (m_var 0)) (own := [("colour", 2), ("many", 3)]) (blkOk_by (by kernel_rfl)) (by decide) (fun _ _ _ _ _ => (mg_tup2 hc (mgn 2 hN) (mgn 3 hN))) (fun _ _ _ _ _ => (m_var 3)))) mr_nil) h.n_sum))
    (ms_one (ms_ret (r_of (m_tuple (mr_cons (r_of (m_lc hc hN (mi_range1 h.n_range (ma_cons m_int ma_nil) (cnt_cons cnt_nil)) (own := [("at", 4)]) (blkOk_by (by kernel_rfl)) (by decide) (fun _ _ _ _ _ => (mgn 4 hN)) (fun _ _ _ _ _ => (m_cal (h_rounded.mono (by omega)) rfl hr takes0 (ma_cons (m_sum hc (mr_cons (r_of (m_lc hc hN (mi_of (m_var 0)) (own := [("colour", 2), ("many", 3)]) (blkOk_by (by kernel_rfl)) (by decide) (fun _ _ _ _ _ => (mg_tup2 hc (mgn 2 hN) (mgn 3 hN))) (fun _ _ _ _ _ => (m_bin op_mulM so_mul ot_mul (r_of (m_ix (r_of (m_var 2)) (r_of (m_var 4)))) (r_of (m_var 3)))))) mr_nil) h.n_sum) (ma_cons (m_var 1) ma_nil)) (cnt_cons (cnt_cons cnt_nil)))))) mr_nil) h.n_tuple))))), fun ds hl => match ds, hl with | [_], _ => by kernel_rfl⟩
theorem c_mean_of (h : Hd K mg) (h_rounded : Cal P w K mg base 1 "rounded" ["one", "by"] m_rounded) : Cal P w K mg base 2 "mean_of" ["box"] m_mean_of := cal_of h.d_mean_of sc_mean_of rfl (body_mean_of h h_rounded)
theorem body_palette_for (h : Hd K mg) (h_colours_of : Cal P w K mg base 1 "colours_of" ["picture"] m_colours_of) (h_spreads : Cal P w K mg base 1 "spreads" ["box"] m_spreads) (h_cut_box : Cal P w K mg base 2 "cut_box" ["box"] m_cut_box) (h_mean_of : Cal P w K mg base 2 "mean_of" ["box"] m_mean_of) : Bdy P w K mg base ["picture", "many", "boxes", "told", "at", "box"] 2 "palette_for" (topS 23) 2 m_palette_for := by
  intro f cdv A outer s H E hr
  have hN := sc_palette_for.nd
  have hu := hr.units
  have hc : (cxOf (L2.CX P w) P w K mg base ["picture", "many", "boxes", "told", "at", "box"] "palette_for" (defScope (topS 23)) f cdv A outer s H E).calm = true := rfl
  have tk : Takes (cxOf (L2.CX P w) P w K mg base ["picture", "many", "boxes", "told", "at", "box"] "palette_for" (defScope (topS 23)) f cdv A outer s H E) (fun cls d _ H => E cls d H) := takes_of rfl rfl rfl rfl
  have hp : PassesOwn (model P w) (cxOf (L2.CX P w) P w K mg base ["picture", "many", "boxes", "told", "at", "box"] "palette_for" (defScope (topS 23)) f cdv A outer s H E).A (cxOf (L2.CX P w) P w K mg base ["picture", "many", "boxes", "told", "at", "box"] "palette_for" (defScope (topS 23)) f cdv A outer s H E).env (cxOf (L2.CX P w) P w K mg base ["picture", "many", "boxes", "told", "at", "box"] "palette_for" (defScope (topS 23)) f cdv A outer s H E).xe := passes_of rfl
  exact ⟨_, (ms_cons (msv 2 hN (m_lst (n := 1) (ma_cons (m_list (mr_cons (r_of (m_cal (h_colours_of.mono (by omega)) rfl hr tk (ma_cons (m_var 0) ma_nil) (cnt_cons cnt_nil))) mr_nil) h.n_list) ma_nil) (cnt_cons cnt_nil)))
    (ms_cons (ms_whileB [0, 3, 4, 5] wF (fun (e : D) (st : D) => [.no, .va e, .va st, .no, .no, .no]) (fun sl => match sl with | [.no, .va p1, .va p2, .no, .no, .no] => some (p1, p2) | _ => none) (fun e => c0_palette_for e) (fun e => l0_palette_for e) hp (mt_cmp op_lt so_lt ot_lt (r_of (m_len (mr_cons (r_of (m_var 2)) mr_nil) h.n_len)) (r_of (m_var 1))) (ms_cons (ms_setLc (i := 3) hc hN rfl rfl (sw_true rfl rfl rfl rfl) (mi_of (m_var 2)) (own := [("box", 5)]) (blkOk_by (by kernel_rfl)) (by decide) (fun _ _ _ _ _ => (mgn 5 hN)) (fun _ _ _ _ _ => (m_max hc hu (mr_cons (r_of (m_cal (h_spreads.mono (by omega)) rfl hr takes0 (ma_cons (m_var 5) ma_nil) (cnt_cons cnt_nil))) mr_nil) h.n_max)))
    (ms_cons (msv 4 hN (m_lindex (un65 hr) (r_of (m_var 3)) (m_max hc hu (mr_cons (r_of (m_var 3)) mr_nil) h.n_max)))
    (ms_cons (ms_if (mt_cmp (op_eqM hu) so_eq ot_eq (r_of (m_ix (r_of (m_var 3)) (r_of (m_var 4)))) (r_of m_int)) (ms_one ms_break) ms_nil)
    (ms_one (msv 2 hN (m_bin op_addM so_add ot_add (r_of (m_bin op_addM so_add ot_add (r_of (m_sl (r_of (m_var 2)) mo_none (mo_some (m_var 4)))) (r_of (m_cal (h_cut_box.mono (by omega)) rfl hr tk (ma_cons (m_ix (r_of (m_var 2)) (r_of (m_var 4))) ma_nil) (cnt_cons cnt_nil))))) (r_of (m_sl (r_of (m_var 2)) (mo_some (m_bin op_addM so_add ot_add (r_of (m_var 4)) (r_of m_int))) mo_none)))))))) (by intros; kernel_rfl) (by intros; kernel_rfl) (by intro sl e st h; (try dsimp only at h); split at h <;> cases h <;> rfl))
    (ms_one (ms_ret (r_of (m_tuple (mr_cons (r_of (m_ssc hc hu hN (mi_of (m_var 2)) (own := [("box", 5)]) (blkOk_by (by kernel_rfl)) (by decide) (fun _ _ _ _ _ => (mgn 5 hN)) (fun _ _ _ _ _ => (m_cal (h_mean_of.mono (by omega)) rfl hr takes0 (ma_cons (m_var 5) ma_nil) (cnt_cons cnt_nil))) h.n_sorted)) mr_nil) h.n_tuple)))))), fun ds hl => match ds, hl with | [_, _], _ => by kernel_rfl⟩
theorem c_palette_for (h : Hd K mg) (h_colours_of : Cal P w K mg base 1 "colours_of" ["picture"] m_colours_of) (h_spreads : Cal P w K mg base 1 "spreads" ["box"] m_spreads) (h_cut_box : Cal P w K mg base 2 "cut_box" ["box"] m_cut_box) (h_mean_of : Cal P w K mg base 2 "mean_of" ["box"] m_mean_of) : Cal P w K mg base 3 "palette_for" ["picture", "many"] m_palette_for := cal_of h.d_palette_for sc_palette_for rfl (body_palette_for h h_colours_of h_spreads h_cut_box h_mean_of)
theorem body_is_whole (h : Hd K mg) : Bdy P w K mg base ["thing"] 1 "is_whole" (topS 4) 0 m_is_whole := by
  intro f cdv A outer s H E hr
  have hN := sc_is_whole.nd
  have hu := hr.units
  have hc : (cxOf (L2.CX P w) P w K mg base ["thing"] "is_whole" (defScope (topS 4)) f cdv A outer s H E).calm = true := rfl
  have tk : Takes (cxOf (L2.CX P w) P w K mg base ["thing"] "is_whole" (defScope (topS 4)) f cdv A outer s H E) (fun cls d _ H => E cls d H) := takes_of rfl rfl rfl rfl
  have hp : PassesOwn (model P w) (cxOf (L2.CX P w) P w K mg base ["thing"] "is_whole" (defScope (topS 4)) f cdv A outer s H E).A (cxOf (L2.CX P w) P w K mg base ["thing"] "is_whole" (defScope (topS 4)) f cdv A outer s H E).env (cxOf (L2.CX P w) P w K mg base ["thing"] "is_whole" (defScope (topS 4)) f cdv A outer s H E).xe := passes_of rfl
  exact ⟨_, (ms_one (ms_ret (r_of (m_and (m_isiN (T := "int") (r_of (m_var 0)) h.n_isinstance h.n_int rfl (by decide +kernel)) (m_one (m_not (r_of (m_isiN (T := "bool") (r_of (m_var 0)) h.n_isinstance h.n_bool rfl (by decide +kernel))))))))), fun ds hl => match ds, hl with | [_], _ => by kernel_rfl⟩
theorem c_is_whole (h : Hd K mg) : Cal P w K mg base 1 "is_whole" ["thing"] m_is_whole := cal_of h.d_is_whole sc_is_whole rfl (body_is_whole h )
theorem body_is_part (h : Hd K mg) (h_is_whole : Cal P w K mg base 1 "is_whole" ["thing"] m_is_whole) : Bdy P w K mg base ["thing"] 1 "is_part" (topS 5) 1 m_is_part := by
  intro f cdv A outer s H E hr
  have hN := sc_is_part.nd
  have hu := hr.units
  have hc : (cxOf (L2.CX P w) P w K mg base ["thing"] "is_part" (defScope (topS 5)) f cdv A outer s H E).calm = true := rfl
  have tk : Takes (cxOf (L2.CX P w) P w K mg base ["thing"] "is_part" (defScope (topS 5)) f cdv A outer s H E) (fun cls d _ H => E cls d H) := takes_of rfl rfl rfl rfl
  have hp : PassesOwn (model P w) (cxOf (L2.CX P w) P w K mg base ["thing"] "is_part" (defScope (topS 5)) f cdv A outer s H E).A (cxOf (L2.CX P w) P w K mg base ["thing"] "is_part" (defScope (topS 5)) f cdv A outer s H E).env (cxOf (L2.CX P w) P w K mg base ["thing"] "is_part" (defScope (topS 5)) f cdv A outer s H E).xe := passes_of rfl
  exact ⟨_, (ms_one (ms_ret (r_of (m_and (m_cal (h_is_whole.mono (by omega)) rfl hr tk (ma_cons (m_var 0) ma_nil) (cnt_cons cnt_nil)) (m_one (m_chain op_leM so_le ot_le op_leM so_le ot_le (r_of m_int) (r_of (m_var 0)) (r_of m_int))))))), fun ds hl => match ds, hl with | [_], _ => by kernel_rfl⟩
theorem c_is_part (h : Hd K mg) (h_is_whole : Cal P w K mg base 1 "is_whole" ["thing"] m_is_whole) : Cal P w K mg base 2 "is_part" ["thing"] m_is_part := cal_of h.d_is_part sc_is_part rfl (body_is_part h h_is_whole)
theorem body_is_colour (h : Hd K mg) (h_is_part : Cal P w K mg base 2 "is_part" ["thing"] m_is_part) : Bdy P w K mg base ["thing", "one"] 1 "is_colour" (topS 6) 2 m_is_colour := by
  intro f cdv A outer s H E hr
  have hN := sc_is_colour.nd
  have hu := hr.units
  have hc : (cxOf (L2.CX P w) P w K mg base ["thing", "one"] "is_colour" (defScope (topS 6)) f cdv A outer s H E).calm = true := rfl
  have tk : Takes (cxOf (L2.CX P w) P w K mg base ["thing", "one"] "is_colour" (defScope (topS 6)) f cdv A outer s H E) (fun cls d _ H => E cls d H) := takes_of rfl rfl rfl rfl
  have hp : PassesOwn (model P w) (cxOf (L2.CX P w) P w K mg base ["thing", "one"] "is_colour" (defScope (topS 6)) f cdv A outer s H E).A (cxOf (L2.CX P w) P w K mg base ["thing", "one"] "is_colour" (defScope (topS 6)) f cdv A outer s H E).env (cxOf (L2.CX P w) P w K mg base ["thing", "one"] "is_colour" (defScope (topS 6)) f cdv A outer s H E).xe := passes_of rfl
  exact ⟨_, (ms_one (ms_ret (r_of (m_and (m_isiN (T := "tuple") (r_of (m_var 0)) h.n_isinstance h.n_tuple rfl (by decide +kernel)) (m_and (m_cmp (op_eqM hu) so_eq ot_eq (r_of (m_len (mr_cons (r_of (m_var 0)) mr_nil) h.n_len)) (r_of m_int)) (m_one (m_all hc (mr_cons (r_of (m_lc hc hN (mi_of (m_var 0)) (own := [("one", 1)]) (blkOk_by (by kernel_rfl)) (by decide) (fun _ _ _ _ _ => (mgn 1 hN)) (fun _ _ _ _ _ => (m_cal (h_is_part.mono (by omega)) rfl hr takes0 (ma_cons (m_var 1) ma_nil) (cnt_cons cnt_nil))))) mr_nil) h.n_all))))))), fun ds hl => match ds, hl with | [_], _ => by kernel_rfl⟩
theorem c_is_colour (h : Hd K mg) (h_is_part : Cal P w K mg base 2 "is_part" ["thing"] m_is_part) : Cal P w K mg base 3 "is_colour" ["thing"] m_is_colour := cal_of h.d_is_colour sc_is_colour rfl (body_is_colour h h_is_part)
theorem body__law_palette_holds (h : Hd K mg) (h_colours_of : Cal P w K mg base 1 "colours_of" ["picture"] m_colours_of) (h_palette_for : Cal P w K mg base 3 "palette_for" ["picture", "many"] m_palette_for) (h_is_colour : Cal P w K mg base 3 "is_colour" ["thing"] m_is_colour) (h_in_few : Cal P w K mg base 3 "in_few" ["picture", "palette"] m_in_few) (h__law_few_holds : Cal P w K mg base 4 "_law_few_holds" ["_law_picture", "_law_palette"] m__law_few_holds) : Bdy P w K mg base ["_law_picture", "_law_many", "_law_palette", "_law_every", "_law_colour", "_law_spot", "_law_parts", "_law_count", "_law_one"] 2 "_law_palette_holds" (topS 31) 4 m__law_palette_holds := by
  intro f cdv A outer s H E hr
  have hN := sc__law_palette_holds.nd
  have hu := hr.units
  have hc : (cxOf (L2.CX P w) P w K mg base ["_law_picture", "_law_many", "_law_palette", "_law_every", "_law_colour", "_law_spot", "_law_parts", "_law_count", "_law_one"] "_law_palette_holds" (defScope (topS 31)) f cdv A outer s H E).calm = true := rfl
  have tk : Takes (cxOf (L2.CX P w) P w K mg base ["_law_picture", "_law_many", "_law_palette", "_law_every", "_law_colour", "_law_spot", "_law_parts", "_law_count", "_law_one"] "_law_palette_holds" (defScope (topS 31)) f cdv A outer s H E) (fun cls d _ H => E cls d H) := takes_of rfl rfl rfl rfl
  have hp : PassesOwn (model P w) (cxOf (L2.CX P w) P w K mg base ["_law_picture", "_law_many", "_law_palette", "_law_every", "_law_colour", "_law_spot", "_law_parts", "_law_count", "_law_one"] "_law_palette_holds" (defScope (topS 31)) f cdv A outer s H E).A (cxOf (L2.CX P w) P w K mg base ["_law_picture", "_law_many", "_law_palette", "_law_every", "_law_colour", "_law_spot", "_law_parts", "_law_count", "_law_one"] "_law_palette_holds" (defScope (topS 31)) f cdv A outer s H E).env (cxOf (L2.CX P w) P w K mg base ["_law_picture", "_law_many", "_law_palette", "_law_every", "_law_colour", "_law_spot", "_law_parts", "_law_count", "_law_one"] "_law_palette_holds" (defScope (topS 31)) f cdv A outer s H E).xe := passes_of rfl
  exact ⟨_, (ms_cons (ms_par2 hN (i := 2) (j := 3) rfl rfl (by decide) rfl rfl (mh_va (m_cal (h_palette_for.mono (by omega)) rfl hr tk (ma_cons (m_var 0) (ma_cons (m_var 1) ma_nil)) (cnt_cons (cnt_cons cnt_nil))) (mh_va (m_lc hc hN (mi_of (m_cal (h_colours_of.mono (by omega)) rfl hr tk (ma_cons (m_var 0) ma_nil) (cnt_cons cnt_nil))) (own := [("_law_colour", 4), ("_law_count", 7)]) (blkOk_by (by kernel_rfl)) (by decide) (fun _ _ _ _ _ => (mg_tup2 hc (mgn 4 hN) (mgn 7 hN))) (fun _ _ _ _ _ => (m_var 4))) mh_nil)) (cnh_va (cnh_va cnh_nil)))
    (ms_cons (ms_if (mt_w (mw_or (mt_not (mt_chain op_leM so_le ot_le op_leM so_le ot_le (r_of m_int) (r_of (m_len (mr_cons (r_of (m_var 2)) mr_nil) h.n_len)) (r_of (m_var 1)))) (mw_or1 (mt_cmp (op_neM hu) so_ne ot_ne (r_of (m_list (mr_cons (r_of (m_var 2)) mr_nil) h.n_list)) (r_of (m_sortSet hc hu (mr_cons (r_of (m_var 2)) mr_nil) h.n_sorted h.n_set)))))) (ms_one (ms_ret (r_of m_bl))) ms_nil)
    (ms_cons (ms_for [4, 5, 6, 7, 8] (fun (e : D × D × D × D) (st : Unit) => [.va e.1, .va e.2.1, .va e.2.2.1, .va e.2.2.2, .no, .no, .no, .no, .no]) (fun sl => match sl with | [.va p0, .va p1, .va p2, .va p3, .no, .no, .no, .no, .no] => some ((p0, p1, p2, p3), ()) | _ => none) (fun e => l0__law_palette_holds e.1 e.2.1 e.2.2.1 e.2.2.2) hp (mi_of (m_var 2)) (mgn 4 hN) (ms_cons (ms_if (mt_not (mt_truth (r_of (m_cal (h_is_colour.mono (by omega)) rfl hr tk (ma_cons (m_var 4) ma_nil) (cnt_cons cnt_nil))))) (ms_one (ms_ret (r_of m_bl))) ms_nil)
    (ms_one (ms_for [5, 6, 7, 8] (fun (e : D × D × D × D × D) (st : Unit) => [.va e.1, .va e.2.1, .va e.2.2.1, .va e.2.2.2.1, .va e.2.2.2.2, .no, .no, .no, .no]) (fun sl => match sl with | [.va p0, .va p1, .va p2, .va p3, .va p4, .no, .no, .no, .no] => some ((p0, p1, p2, p3, p4), ()) | _ => none) (fun e => l1__law_palette_holds e.1 e.2.1 e.2.2.1 e.2.2.2.1 e.2.2.2.2) hp (mi_range1 h.n_range (ma_cons m_int ma_nil) (cnt_cons cnt_nil)) (mgn 5 hN) (ms_cons (ms_setLc (i := 6) hc hN rfl rfl (sw_true rfl rfl rfl rfl) (mi_of (m_var 3)) (own := [("_law_one", 8)]) (blkOk_by (by kernel_rfl)) (by decide) (fun _ _ _ _ _ => (mgn 8 hN)) (fun _ _ _ _ _ => (m_ix (r_of (m_var 8)) (r_of (m_var 5)))))
    (ms_one (ms_if (mt_not (mt_chain op_leM so_le ot_le op_leM so_le ot_le (r_of (m_min hc hu (mr_cons (r_of (m_var 6)) mr_nil) h.n_min)) (r_of (m_ix (r_of (m_var 4)) (r_of (m_var 5)))) (r_of (m_max hc hu (mr_cons (r_of (m_var 6)) mr_nil) h.n_max)))) (ms_one (ms_ret (r_of m_bl))) ms_nil))) (by intros; kernel_rfl) (by intro sl e st h; (try dsimp only at h); split at h <;> cases h <;> rfl)))) (by intros; kernel_rfl) (by intro sl e st h; (try dsimp only at h); split at h <;> cases h <;> rfl))
    (ms_cons (ms_if (mt_cmp op_ge so_ge ot_ge (r_of (m_var 1)) (r_of (m_len (mr_cons (r_of (m_var 3)) mr_nil) h.n_len))) (ms_one (ms_ret (r_of (m_and (m_cmp (op_eqM hu) so_eq ot_eq (r_of (m_list (mr_cons (r_of (m_var 2)) mr_nil) h.n_list)) (r_of (m_var 3))) (m_one (m_cmp (op_eqM hu) so_eq ot_eq (r_of (m_cal (h_in_few.mono (by omega)) rfl hr tk (ma_cons (m_var 0) (ma_cons (m_var 2) ma_nil)) (cnt_cons (cnt_cons cnt_nil)))) (r_of (m_var 0)))))))) ms_nil)
    (ms_one (ms_ret (r_of (m_cal (h__law_few_holds.mono (by omega)) rfl hr tk (ma_cons (m_var 0) (ma_cons (m_var 2) ma_nil)) (cnt_cons (cnt_cons cnt_nil)))))))))), fun ds hl => match ds, hl with | [_, _], _ => by kernel_rfl⟩
theorem c__law_palette_holds (h : Hd K mg) (h_colours_of : Cal P w K mg base 1 "colours_of" ["picture"] m_colours_of) (h_palette_for : Cal P w K mg base 3 "palette_for" ["picture", "many"] m_palette_for) (h_is_colour : Cal P w K mg base 3 "is_colour" ["thing"] m_is_colour) (h_in_few : Cal P w K mg base 3 "in_few" ["picture", "palette"] m_in_few) (h__law_few_holds : Cal P w K mg base 4 "_law_few_holds" ["_law_picture", "_law_palette"] m__law_few_holds) : Cal P w K mg base 5 "_law_palette_holds" ["_law_picture", "_law_many"] m__law_palette_holds := cal_of h.d__law_palette_holds sc__law_palette_holds rfl (body__law_palette_holds h h_colours_of h_palette_for h_is_colour h_in_few h__law_few_holds)
theorem body_turned (h : Hd K mg) : Bdy P w K mg base ["picture", "width", "height", "cells", "x", "y"] 1 "turned" (topS 12) 0 m_turned := by
  intro f cdv A outer s H E hr
  have hN := sc_turned.nd
  have hu := hr.units
  have hc : (cxOf (L2.CX P w) P w K mg base ["picture", "width", "height", "cells", "x", "y"] "turned" (defScope (topS 12)) f cdv A outer s H E).calm = true := rfl
  have tk : Takes (cxOf (L2.CX P w) P w K mg base ["picture", "width", "height", "cells", "x", "y"] "turned" (defScope (topS 12)) f cdv A outer s H E) (fun cls d _ H => E cls d H) := takes_of rfl rfl rfl rfl
  have hp : PassesOwn (model P w) (cxOf (L2.CX P w) P w K mg base ["picture", "width", "height", "cells", "x", "y"] "turned" (defScope (topS 12)) f cdv A outer s H E).A (cxOf (L2.CX P w) P w K mg base ["picture", "width", "height", "cells", "x", "y"] "turned" (defScope (topS 12)) f cdv A outer s H E).env (cxOf (L2.CX P w) P w K mg base ["picture", "width", "height", "cells", "x", "y"] "turned" (defScope (topS 12)) f cdv A outer s H E).xe := passes_of rfl
  exact ⟨_, (ms_cons (ms_asg (m_var 0) (mg_tup3 hc (mgn 1 hN) (mgn 2 hN) (mgn 3 hN)))
    (ms_one (ms_ret (r_of (m_tup (n := 3) (ma_cons (m_var 2) (ma_cons (m_var 1) (ma_cons (m_tuple (mr_cons (r_of (m_lc2 [5] hc hN (mi_range1 h.n_range (ma_cons (m_var 1) ma_nil) (cnt_cons cnt_nil)) (own := [("x", 4), ("y", 5)]) (blkOk_by (by kernel_rfl)) (by decide) (by decide) (by decide) (fun _ _ _ _ _ => (mgn 4 hN)) (fun _ _ _ _ _ => (mi_range3 h.n_range (ma_cons (m_bin op_sub so_sub ot_sub (r_of (m_var 2)) (r_of m_int)) (ma_cons (m_neg m_int) (ma_cons (m_neg m_int) ma_nil))) (cnt_cons (cnt_cons (cnt_cons cnt_nil))))) (fun _ _ _ _ _ => (mgn 5 hN)) (fun _ _ _ _ _ => (m_ix (r_of (m_var 3)) (r_of (m_bin op_addM so_add ot_add (r_of (m_bin op_mulM so_mul ot_mul (r_of (m_var 5)) (r_of (m_var 1)))) (r_of (m_var 4)))))))) mr_nil) h.n_tuple) ma_nil))) (cnt_cons (cnt_cons (cnt_cons cnt_nil)))))))), fun ds hl => match ds, hl with | [_], _ => by kernel_rfl⟩
theorem c_turned (h : Hd K mg) : Cal P w K mg base 1 "turned" ["picture"] m_turned := cal_of h.d_turned sc_turned rfl (body_turned h )
theorem body_of_rows (h : Hd K mg) : Bdy P w K mg base ["rows", "row", "cell"] 1 "of_rows" (topS 11) 0 m_of_rows := by
  intro f cdv A outer s H E hr
  have hN := sc_of_rows.nd
  have hu := hr.units
  have hc : (cxOf (L2.CX P w) P w K mg base ["rows", "row", "cell"] "of_rows" (defScope (topS 11)) f cdv A outer s H E).calm = true := rfl
  have tk : Takes (cxOf (L2.CX P w) P w K mg base ["rows", "row", "cell"] "of_rows" (defScope (topS 11)) f cdv A outer s H E) (fun cls d _ H => E cls d H) := takes_of rfl rfl rfl rfl
  have hp : PassesOwn (model P w) (cxOf (L2.CX P w) P w K mg base ["rows", "row", "cell"] "of_rows" (defScope (topS 11)) f cdv A outer s H E).A (cxOf (L2.CX P w) P w K mg base ["rows", "row", "cell"] "of_rows" (defScope (topS 11)) f cdv A outer s H E).env (cxOf (L2.CX P w) P w K mg base ["rows", "row", "cell"] "of_rows" (defScope (topS 11)) f cdv A outer s H E).xe := passes_of rfl
  exact ⟨_, (ms_one (ms_ret (r_of (m_tup (n := 3) (ma_cons (m_len (mr_cons (r_of (m_ix (r_of (m_var 0)) (r_of m_int))) mr_nil) h.n_len) (ma_cons (m_len (mr_cons (r_of (m_var 0)) mr_nil) h.n_len) (ma_cons (m_tuple (mr_cons (r_of (m_lc2 [2] hc hN (mi_of (m_var 0)) (own := [("row", 1), ("cell", 2)]) (blkOk_by (by kernel_rfl)) (by decide) (by decide) (by decide) (fun _ _ _ _ _ => (mgn 1 hN)) (fun _ _ _ _ _ => (mi_of (m_var 1))) (fun _ _ _ _ _ => (mgn 2 hN)) (fun _ _ _ _ _ => (m_var 2)))) mr_nil) h.n_tuple) ma_nil))) (cnt_cons (cnt_cons (cnt_cons cnt_nil))))))), fun ds hl => match ds, hl with | [_], _ => by kernel_rfl⟩
theorem c_of_rows (h : Hd K mg) : Cal P w K mg base 1 "of_rows" ["rows"] m_of_rows := cal_of h.d_of_rows sc_of_rows rfl (body_of_rows h )
theorem body_rows_of (h : Hd K mg) : Bdy P w K mg base ["picture", "width", "height", "cells", "y"] 1 "rows_of" (topS 10) 0 m_rows_of := by
  intro f cdv A outer s H E hr
  have hN := sc_rows_of.nd
  have hu := hr.units
  have hc : (cxOf (L2.CX P w) P w K mg base ["picture", "width", "height", "cells", "y"] "rows_of" (defScope (topS 10)) f cdv A outer s H E).calm = true := rfl
  have tk : Takes (cxOf (L2.CX P w) P w K mg base ["picture", "width", "height", "cells", "y"] "rows_of" (defScope (topS 10)) f cdv A outer s H E) (fun cls d _ H => E cls d H) := takes_of rfl rfl rfl rfl
  have hp : PassesOwn (model P w) (cxOf (L2.CX P w) P w K mg base ["picture", "width", "height", "cells", "y"] "rows_of" (defScope (topS 10)) f cdv A outer s H E).A (cxOf (L2.CX P w) P w K mg base ["picture", "width", "height", "cells", "y"] "rows_of" (defScope (topS 10)) f cdv A outer s H E).env (cxOf (L2.CX P w) P w K mg base ["picture", "width", "height", "cells", "y"] "rows_of" (defScope (topS 10)) f cdv A outer s H E).xe := passes_of rfl
  exact ⟨_, (ms_cons (ms_asg (m_var 0) (mg_tup3 hc (mgn 1 hN) (mgn 2 hN) (mgn 3 hN)))
    (ms_one (ms_ret (r_of (m_lc hc hN (mi_range1 h.n_range (ma_cons (m_var 2) ma_nil) (cnt_cons cnt_nil)) (own := [("y", 4)]) (blkOk_by (by kernel_rfl)) (by decide) (fun _ _ _ _ _ => (mgn 4 hN)) (fun _ _ _ _ _ => (m_sl (r_of (m_var 3)) (mo_some (m_bin op_mulM so_mul ot_mul (r_of (m_var 4)) (r_of (m_var 1)))) (mo_some (m_bin op_mulM so_mul ot_mul (r_of (m_bin op_addM so_add ot_add (r_of (m_var 4)) (r_of m_int))) (r_of (m_var 1))))))))))), fun ds hl => match ds, hl with | [_], _ => by kernel_rfl⟩
theorem c_rows_of (h : Hd K mg) : Cal P w K mg base 1 "rows_of" ["picture"] m_rows_of := cal_of h.d_rows_of sc_rows_of rfl (body_rows_of h )
theorem body_mirrored (h : Hd K mg) (h_rows_of : Cal P w K mg base 1 "rows_of" ["picture"] m_rows_of) (h_of_rows : Cal P w K mg base 1 "of_rows" ["rows"] m_of_rows) : Bdy P w K mg base ["picture", "row"] 1 "mirrored" (topS 13) 1 m_mirrored := by
  intro f cdv A outer s H E hr
  have hN := sc_mirrored.nd
  have hu := hr.units
  have hc : (cxOf (L2.CX P w) P w K mg base ["picture", "row"] "mirrored" (defScope (topS 13)) f cdv A outer s H E).calm = true := rfl
  have tk : Takes (cxOf (L2.CX P w) P w K mg base ["picture", "row"] "mirrored" (defScope (topS 13)) f cdv A outer s H E) (fun cls d _ H => E cls d H) := takes_of rfl rfl rfl rfl
  have hp : PassesOwn (model P w) (cxOf (L2.CX P w) P w K mg base ["picture", "row"] "mirrored" (defScope (topS 13)) f cdv A outer s H E).A (cxOf (L2.CX P w) P w K mg base ["picture", "row"] "mirrored" (defScope (topS 13)) f cdv A outer s H E).env (cxOf (L2.CX P w) P w K mg base ["picture", "row"] "mirrored" (defScope (topS 13)) f cdv A outer s H E).xe := passes_of rfl
  exact ⟨_, (ms_one (ms_ret (r_of (m_cal (h_of_rows.mono (by omega)) rfl hr tk (ma_cons (m_lc hc hN (mi_of (m_cal (h_rows_of.mono (by omega)) rfl hr tk (ma_cons (m_var 0) ma_nil) (cnt_cons cnt_nil))) (own := [("row", 1)]) (blkOk_by (by kernel_rfl)) (by decide) (fun _ _ _ _ _ => (mgn 1 hN)) (fun _ _ _ _ _ => (m_rev (r_of (m_var 1))))) ma_nil) (cnt_cons cnt_nil))))), fun ds hl => match ds, hl with | [_], _ => by kernel_rfl⟩
theorem c_mirrored (h : Hd K mg) (h_rows_of : Cal P w K mg base 1 "rows_of" ["picture"] m_rows_of) (h_of_rows : Cal P w K mg base 1 "of_rows" ["rows"] m_of_rows) : Cal P w K mg base 2 "mirrored" ["picture"] m_mirrored := cal_of h.d_mirrored sc_mirrored rfl (body_mirrored h h_rows_of h_of_rows)
theorem body_law (h : Hd K mg) (h__law_draw : Cal P w K mg base 1 "_law_draw" ["_law_script", "_law_town", "_law_many"] m__law_draw) (h__law_drawn_picture : Cal P w K mg base 4 "_law_drawn_picture" ["_law_script", "_law_town", "_law_width", "_law_height", "_law_many"] m__law_drawn_picture) (h__law_drawn_colour : Cal P w K mg base 3 "_law_drawn_colour" ["_law_script", "_law_town"] m__law_drawn_colour) (h__law_few_holds : Cal P w K mg base 4 "_law_few_holds" ["_law_picture", "_law_palette"] m__law_few_holds) (h_in_few : Cal P w K mg base 3 "in_few" ["picture", "palette"] m_in_few) (h_faults : Cal P w K mg base 2 "faults" ["one", "other"] m_faults) (h__law_palette_holds : Cal P w K mg base 5 "_law_palette_holds" ["_law_picture", "_law_many"] m__law_palette_holds) (h_palette_for : Cal P w K mg base 3 "palette_for" ["picture", "many"] m_palette_for) (h_turned : Cal P w K mg base 1 "turned" ["picture"] m_turned) (h_mirrored : Cal P w K mg base 2 "mirrored" ["picture"] m_mirrored) : Bdy P w K mg base ["_law_script", "_law_town", "_law_k", "_law_width", "_law_height", "_law_picture", "_law_palette", "_law_more", "_law_many", "_law_told", "_law_j"] 1 "law" (topS 32) 5 m_law := by
  intro f cdv A outer s H E hr
  have hN := sc_law.nd
  have hu := hr.units
  have hc : (cxOf (L2.CX P w) P w K mg base ["_law_script", "_law_town", "_law_k", "_law_width", "_law_height", "_law_picture", "_law_palette", "_law_more", "_law_many", "_law_told", "_law_j"] "law" (defScope (topS 32)) f cdv A outer s H E).calm = true := rfl
  have tk : Takes (cxOf (L2.CX P w) P w K mg base ["_law_script", "_law_town", "_law_k", "_law_width", "_law_height", "_law_picture", "_law_palette", "_law_more", "_law_many", "_law_told", "_law_j"] "law" (defScope (topS 32)) f cdv A outer s H E) (fun cls d _ H => E cls d H) := takes_of rfl rfl rfl rfl
  have hp : PassesOwn (model P w) (cxOf (L2.CX P w) P w K mg base ["_law_script", "_law_town", "_law_k", "_law_width", "_law_height", "_law_picture", "_law_palette", "_law_more", "_law_many", "_law_told", "_law_j"] "law" (defScope (topS 32)) f cdv A outer s H E).A (cxOf (L2.CX P w) P w K mg base ["_law_script", "_law_town", "_law_k", "_law_width", "_law_height", "_law_picture", "_law_palette", "_law_more", "_law_many", "_law_told", "_law_j"] "law" (defScope (topS 32)) f cdv A outer s H E).env (cxOf (L2.CX P w) P w K mg base ["_law_script", "_law_town", "_law_k", "_law_width", "_law_height", "_law_picture", "_law_palette", "_law_more", "_law_many", "_law_told", "_law_j"] "law" (defScope (topS 32)) f cdv A outer s H E).xe := passes_of rfl
  exact ⟨_, (ms_cons (ms_town 1 hN)
    (ms_cons (ms_for [2, 3, 4, 5, 6, 7, 8, 9, 10] (fun (e : D × D) (st : Unit) => [.va e.1, .va e.2, .no, .no, .no, .no, .no, .no, .no, .no, .no]) (fun sl => match sl with | [.va p0, .va p1, .no, .no, .no, .no, .no, .no, .no, .no, .no] => some ((p0, p1), ()) | _ => none) (fun e => l0_law e.1 e.2) hp (mi_range1 h.n_range (ma_cons m_int ma_nil) (cnt_cons cnt_nil)) (mgn 2 hN) (ms_cons (ms_par2 hN (i := 3) (j := 4) rfl rfl (by decide) rfl rfl (mh_va (m_bin op_addM so_add ot_add (r_of m_int) (r_of (m_cal (h__law_draw.mono (by omega)) rfl hr tk (ma_cons (m_var 0) (ma_cons (m_var 1) (ma_cons m_int ma_nil))) (cnt_cons (cnt_cons (cnt_cons cnt_nil)))))) (mh_va (m_bin op_addM so_add ot_add (r_of m_int) (r_of (m_cal (h__law_draw.mono (by omega)) rfl hr tk (ma_cons (m_var 0) (ma_cons (m_var 1) (ma_cons m_int ma_nil))) (cnt_cons (cnt_cons (cnt_cons cnt_nil)))))) mh_nil)) (cnh_va (cnh_va cnh_nil)))
    (ms_cons (msv 5 hN (m_cal (h__law_drawn_picture.mono (by omega)) rfl hr tk (ma_cons (m_var 0) (ma_cons (m_var 1) (ma_cons (m_var 3) (ma_cons (m_var 4) (ma_cons m_int ma_nil))))) (cnt_c4 (cnt_cons cnt_nil))))
    (ms_cons (msv 6 hN (m_tuple (mr_cons (r_of (m_lc hc hN (mi_range1 h.n_range (ma_cons (m_bin op_addM so_add ot_add (r_of m_int) (r_of (m_cal (h__law_draw.mono (by omega)) rfl hr tk (ma_cons (m_var 0) (ma_cons (m_var 1) (ma_cons m_int ma_nil))) (cnt_cons (cnt_cons (cnt_cons cnt_nil)))))) ma_nil) (cnt_cons cnt_nil)) (own := [("_law_j", 10)]) (blkOk_by (by kernel_rfl)) (by decide) (fun _ _ _ _ _ => (mgn 10 hN)) (fun _ _ _ _ _ => (m_cal (h__law_drawn_colour.mono (by omega)) rfl hr takes0 (ma_cons (m_var 0) (ma_cons (m_var 1) ma_nil)) (cnt_cons (cnt_cons cnt_nil)))))) mr_nil) h.n_tuple))
    (ms_cons (msv 7 hN (m_bin op_addM so_add ot_add (r_of (m_var 6)) (r_of (m_tup (n := 1) (ma_cons (m_cal (h__law_drawn_colour.mono (by omega)) rfl hr tk (ma_cons (m_var 0) (ma_cons (m_var 1) ma_nil)) (cnt_cons (cnt_cons cnt_nil))) ma_nil) (cnt_cons cnt_nil)))))
    (ms_cons (ms_if (mt_not (mt_truth (r_of (m_cal (h__law_few_holds.mono (by omega)) rfl hr tk (ma_cons (m_var 5) (ma_cons (m_var 6) ma_nil)) (cnt_cons (cnt_cons cnt_nil)))))) (ms_one (ms_ret (r_of m_bl))) ms_nil)
    (ms_cons (ms_if (mt_cmp op_gt so_gt ot_gt (r_of (m_cal (h_faults.mono (by omega)) rfl hr tk (ma_cons (m_var 5) (ma_cons (m_cal (h_in_few.mono (by omega)) rfl hr tk (ma_cons (m_var 5) (ma_cons (m_var 7) ma_nil)) (cnt_cons (cnt_cons cnt_nil))) ma_nil)) (cnt_cons (cnt_cons cnt_nil)))) (r_of (m_cal (h_faults.mono (by omega)) rfl hr tk (ma_cons (m_var 5) (ma_cons (m_cal (h_in_few.mono (by omega)) rfl hr tk (ma_cons (m_var 5) (ma_cons (m_var 6) ma_nil)) (cnt_cons (cnt_cons cnt_nil))) ma_nil)) (cnt_cons (cnt_cons cnt_nil))))) (ms_one (ms_ret (r_of m_bl))) ms_nil)
    (ms_one (ms_for [2, 3, 4, 6, 7, 8, 9, 10] (fun (e : D × D × D) (st : Unit) => [.va e.1, .va e.2.1, .no, .no, .no, .va e.2.2, .no, .no, .no, .no, .no]) (fun sl => match sl with | [.va p0, .va p1, .no, .no, .no, .va p5, .no, .no, .no, .no, .no] => some ((p0, p1, p5), ()) | _ => none) (fun e => l1_law e.1 e.2.1 e.2.2) hp (mi_of (m_tup (n := 4) (ma_cons m_int (ma_cons m_int (ma_cons m_int (ma_cons m_int ma_nil)))) (cnt_c4 cnt_nil))) (mgn 8 hN) (ms_cons (ms_if (mt_not (mt_truth (r_of (m_cal (h__law_palette_holds.mono (by omega)) rfl hr tk (ma_cons (m_var 5) (ma_cons (m_var 8) ma_nil)) (cnt_cons (cnt_cons cnt_nil)))))) (ms_one (ms_ret (r_of m_bl))) ms_nil)
    (ms_cons (msv 9 hN (m_cal (h_palette_for.mono (by omega)) rfl hr tk (ma_cons (m_var 5) (ma_cons (m_var 8) ma_nil)) (cnt_cons (cnt_cons cnt_nil))))
    (ms_cons (ms_if (mt_cmp (op_neM hu) so_ne ot_ne (r_of (m_cal (h_palette_for.mono (by omega)) rfl hr tk (ma_cons (m_cal (h_turned.mono (by omega)) rfl hr tk (ma_cons (m_var 5) ma_nil) (cnt_cons cnt_nil)) (ma_cons (m_var 8) ma_nil)) (cnt_cons (cnt_cons cnt_nil)))) (r_of (m_var 9))) (ms_one (ms_ret (r_of m_bl))) ms_nil)
    (ms_one (ms_if (mt_cmp (op_neM hu) so_ne ot_ne (r_of (m_cal (h_palette_for.mono (by omega)) rfl hr tk (ma_cons (m_cal (h_mirrored.mono (by omega)) rfl hr tk (ma_cons (m_var 5) ma_nil) (cnt_cons cnt_nil)) (ma_cons (m_var 8) ma_nil)) (cnt_cons (cnt_cons cnt_nil)))) (r_of (m_var 9))) (ms_one (ms_ret (r_of m_bl))) ms_nil))))) (by intros; kernel_rfl) (by intro sl e st h; (try dsimp only at h); split at h <;> cases h <;> rfl))))))))) (by intros; kernel_rfl) (by intro sl e st h; (try dsimp only at h); split at h <;> cases h <;> rfl))
    (ms_one (ms_ret (r_of m_bl))))), fun ds hl => match ds, hl with | [_], _ => by kernel_rfl⟩
end
theorem all_ok {w : World} {K : PySem.W.Frag} {mg : Str → Option Value} {fa : Addr} (h : Hd K mg) (hfa : mg "law" = some (.ref fa)) (hm : ∀ ns : List Int, ns.length ≤ 63 → ∃ w', m_law [.scr ns] ⟨none, []⟩ = .ok (.bl true) w') :
    ∃ fd : FuncData, (∀ (s : Shared) (u : Value), BindsTo s fd ⟨[u], []⟩ [("_law_script", u)]) ∧ ∀ base : Heap, K.In base → base.Ns mainGlobals mg → TBs K mg base → FnOk PySem.Challenge.pw_paintyard_k12_whole_few_colours w K mg base (L2.CX PySem.Challenge.pw_paintyard_k12_whole_few_colours w) 6 fa fd ["_law_script"] (spLaw K) := by
  refine law_of (k := 5) hfa h.d_law sc_law hm fun base _ _ h_tbs => ?_
  have h__law_draw := c__law_draw (P := PySem.Challenge.pw_paintyard_k12_whole_few_colours) (w := w) (base := base) h 
  have h__law_pick := c__law_pick (P := PySem.Challenge.pw_paintyard_k12_whole_few_colours) (w := w) (base := base) h h__law_draw
  have h__law_drawn_colour := c__law_drawn_colour (P := PySem.Challenge.pw_paintyard_k12_whole_few_colours) (w := w) (base := base) h h__law_draw h__law_pick
  have h__law_drawn_picture := c__law_drawn_picture (P := PySem.Challenge.pw_paintyard_k12_whole_few_colours) (w := w) (base := base) h h__law_drawn_colour h__law_pick
  have h_colours_of := c_colours_of (P := PySem.Challenge.pw_paintyard_k12_whole_few_colours) (w := w) (base := base) h 
  have h_distance := c_distance (P := PySem.Challenge.pw_paintyard_k12_whole_few_colours) (w := w) (base := base) h 
  have h_nearest := c_nearest (P := PySem.Challenge.pw_paintyard_k12_whole_few_colours) (w := w) (base := base) h h_distance
  have h_in_few := c_in_few (P := PySem.Challenge.pw_paintyard_k12_whole_few_colours) (w := w) (base := base) h h_colours_of h_nearest
  have h_must_be_as_great := c_must_be_as_great (P := PySem.Challenge.pw_paintyard_k12_whole_few_colours) (w := w) (base := base) h 
  have h_faults := c_faults (P := PySem.Challenge.pw_paintyard_k12_whole_few_colours) (w := w) (base := base) h h_must_be_as_great h_distance
  have h__law_few_holds := c__law_few_holds (P := PySem.Challenge.pw_paintyard_k12_whole_few_colours) (w := w) (base := base) h h_in_few h_distance h_nearest h_faults
  have h_spreads := c_spreads (P := PySem.Challenge.pw_paintyard_k12_whole_few_colours) (w := w) (base := base) h 
  have h_cut_box := c_cut_box (P := PySem.Challenge.pw_paintyard_k12_whole_few_colours) (w := w) (base := base) h h_tbs h_spreads
  have h_rounded := c_rounded (P := PySem.Challenge.pw_paintyard_k12_whole_few_colours) (w := w) (base := base) h 
  have h_mean_of := c_mean_of (P := PySem.Challenge.pw_paintyard_k12_whole_few_colours) (w := w) (base := base) h h_rounded
  have h_palette_for := c_palette_for (P := PySem.Challenge.pw_paintyard_k12_whole_few_colours) (w := w) (base := base) h h_colours_of h_spreads h_cut_box h_mean_of
  have h_is_whole := c_is_whole (P := PySem.Challenge.pw_paintyard_k12_whole_few_colours) (w := w) (base := base) h 
  have h_is_part := c_is_part (P := PySem.Challenge.pw_paintyard_k12_whole_few_colours) (w := w) (base := base) h h_is_whole
  have h_is_colour := c_is_colour (P := PySem.Challenge.pw_paintyard_k12_whole_few_colours) (w := w) (base := base) h h_is_part
  have h__law_palette_holds := c__law_palette_holds (P := PySem.Challenge.pw_paintyard_k12_whole_few_colours) (w := w) (base := base) h h_colours_of h_palette_for h_is_colour h_in_few h__law_few_holds
  have h_turned := c_turned (P := PySem.Challenge.pw_paintyard_k12_whole_few_colours) (w := w) (base := base) h 
  have h_of_rows := c_of_rows (P := PySem.Challenge.pw_paintyard_k12_whole_few_colours) (w := w) (base := base) h 
  have h_rows_of := c_rows_of (P := PySem.Challenge.pw_paintyard_k12_whole_few_colours) (w := w) (base := base) h 
  have h_mirrored := c_mirrored (P := PySem.Challenge.pw_paintyard_k12_whole_few_colours) (w := w) (base := base) h h_rows_of h_of_rows
  exact body_law h h__law_draw h__law_drawn_picture h__law_drawn_colour h__law_few_holds h_in_few h_faults h__law_palette_holds h_palette_for h_turned h_mirrored
end Lw

namespace Lw
open PySem Pm
open Rp Rn
theorem add_m (i : Int) (m : M D) : fBin addD (M.pure (.int i)) m = m.bind fun d => M.opt (addD (.int i) d) := rfl
theorem not_true {α : Type} (x y : M α) : fIf (fNotB (fTru (M.pure (D.bl true)))) x y = y := by
  rw [f_tru, t_bl, opt_some, f_notB, f_if, if_neg (by simp)]
theorem exl {α : Type} {E : α → D} {P : α → Prop} : ∀ {l : List D}, (∀ y ∈ l, ∃ c, y = E c ∧ P c) → ∃ cs : List α, l = cs.map E ∧ cs.length = l.length ∧ ∀ c ∈ cs, P c
  | [], _ => ⟨[], rfl, rfl, by simp⟩
  | y :: l, h => by
    obtain ⟨c, rfl, hc⟩ := h y List.mem_cons_self
    obtain ⟨cs, rfl, h1, h2⟩ := exl (fun y hy => h y (List.mem_cons_of_mem _ hy))
    refine ⟨c :: cs, rfl, by simp, fun z hz => ?_⟩
    rcases List.mem_cons.mp hz with rfl | hz
    · exact hc
    · exact h2 z hz
def picL (w h : Int) (ps : List C4) : D := .tup [.int w, .int h, .tup (ps.map col)]
theorem okd_cells (n : Nat) (ps : List C4) : okd (n + 2) (.tup (ps.map col)) = true := by
  rw [okd_tup, List.all_eq_true]
  intro d hd
  obtain ⟨p, _, rfl⟩ := List.mem_map.mp hd
  exact okd_col n p
theorem okd_lcells (n : Nat) (ps : List C4) : okd (n + 2) (.lst (ps.map col)) = true := by
  rw [okd_lst, List.all_eq_true]
  intro d hd
  obtain ⟨p, _, rfl⟩ := List.mem_map.mp hd
  exact okd_col n p
theorem okd_pic (w h : Int) (ps : List C4) : okd 40 (picL w h ps) = true := by
  unfold picL
  rw [okd_tup, List.all_cons, List.all_cons, List.all_cons, List.all_nil, okd_cells 37, okd_int, okd_int]
  rfl
theorem ne_false {α : Type} {d : D} (h : okd 40 d = true) (x y : M α) : fIf (fOf (fBin neD (M.pure d) (M.pure d))) x y = y := by
  rw [f_bin, o_ne_self h, opt_some, f_of, f_if, if_neg (by simp)]
theorem i2_pic (w h : Int) (ps : List C4) : fBin ixD (M.pure (picL w h ps)) (M.pure (D.int 2)) = M.pure (.tup (ps.map col)) := rfl
theorem sl_pic (w h : Int) (ps : List C4) : fSl (M.pure (picL w h ps)) fONo (fOSo (M.pure (D.int 2))) = M.pure (.tup [.int w, .int h]) := rfl
theorem few_ok (w h : Int) {ps qs : List C4} (hl : ps.length ≤ 5000) (hp : ∀ p ∈ ps, okc p) (h0 : qs ≠ []) (hz : qs.length ≤ 1000) (hq : ∀ q ∈ qs, okc q) : m_in_few [picL w h ps, .tup (qs.map col)] = M.pure (picL w h (ps.map (nearC qs))) := by
  refine (few_eq _ _ hl hp h0 hz hq).trans ?_
  unfold picL
  rw [List.map_map]; rfl
theorem faults_ok (w h : Int) {ps qs : List C4} (hp : ∀ p ∈ ps, okc p) (hq : ∀ q ∈ qs, okc q) : m_faults [picL w h ps, picL w h qs] = M.pure (.int (fltS ps qs)) := by
  have gs : m_must_be_as_great [picL w h ps, picL w h qs] = M.pure .non := by
    show p_must_be_as_great _ _ = _
    unfold p_must_be_as_great
    rw [sl_pic, sl_pic, f_bin, o_ne_self rfl, opt_some, f_of, f_if, if_neg (by decide)]
    try rfl
  show p_faults _ _ = _
  unfold p_faults
  rw [call2 m_must_be_as_great, gs, Pm.pure_bind, i2_pic, i2_pic]
  rw [f_nil, f_cons, f_cons, f_zip, z_tup, opt_some, zipL_map, f_lc, map_of (g := fun p : C4 × C4 => .int (dstC p.1 p.2)) (fun p hpp => by
    obtain ⟨h1, h2⟩ := List.of_mem_zip hpp
    rw [f_u2]
    show m_distance [col p.1, col p.2] = _
    exact dist_C (hp _ h1) (hq _ h2)), Pm.pure_bind, f_cons, f_cb, b_sum]
  have : ((ps.zip qs).map fun p : C4 × C4 => D.int (dstC p.1 p.2)) = ((ps.zip qs).map fun p => dstC p.1 p.2).map D.int := by rw [List.map_map]; rfl
  rw [this, intsOf_map]; rfl
theorem deq_c (a b : C4) : deq (col a) (col b) = decide (a = b) := by
  have := deq_nts (quad a) (quad b)
  rw [nts_quad, nts_quad] at this
  rw [this]
  by_cases z : a = b
  · rw [z]; simp
  · rw [decide_eq_false z, decide_eq_false (fun y => z (quad_inj y))]
theorem nin_tup {c : C4} {u : List C4} (h : c ∈ u) : ninD (col c) (.tup (u.map col)) = some (.bl false) := by
  have hall : (u.map col).all (okd 39) = true := by
    rw [List.all_eq_true]
    intro d hd
    obtain ⟨q, _, rfl⟩ := List.mem_map.mp hd
    exact okd_col 38 q
  show (if okd 40 (col c) = true ∧ (u.map col).all (okd 39) = true then some (D.bl (!inDs (col c) (u.map col))) else none) = _
  rw [if_pos ⟨okd_col 39 c, hall⟩]
  have e : inDs (col c) (u.map col) = true := by
    unfold inDs
    rw [List.any_eq_true]
    refine ⟨col c, List.mem_map.mpr ⟨c, h, rfl⟩, ?_⟩
    rw [deq_c, decide_eq_true_eq]
  rw [e]; rfl
theorem flt_none {f : D → M (Option D)} {α : Type} {E : α → D} {l : List α} (h : ∀ x ∈ l, f (E x) = M.pure none) : (fFltM f (l.map E)) = M.pure [] := by
  rw [flt_of (f := f) (E := E) (g := fun _ => none) h]
  rw [List.filterMap_eq_nil_iff.mpr fun _ _ => rfl]
theorem few_turn (w h : Int) {ps qs : List C4} (P N : D) (h0 : qs ≠ []) (hz : qs.length ≤ 1000) (hq : ∀ q ∈ qs, okc q) {p : C4} (hp : okc p) (k : Unit → M D) : l0__law_few_holds P (.tup (qs.map col)) N (.tup [col p, col (nearC qs p)]) () k = k () := by
  unfold l0__law_few_holds
  have hn := hq _ (near_mem h0 p)
  have e1 : (fLCf (fItems (M.pure (.tup (qs.map col)))) fun _law_one_ => fIf (fOf (fBin ltD (fCall m_distance (fCons (M.pure _law_one_) (fCons (M.pure (col p)) fNil))) (fCall m_distance (fCons (M.pure (col (nearC qs p))) (fCons (M.pure (col p)) fNil))))) (M.bind (M.pure _law_one_) fun y_ => M.pure (some y_)) (M.pure none)) = M.pure (.lst []) := by
    rw [f_items, i_tup, opt_some, f_lcf, flt_none (fun q hqq => by
      have := near_le h0 p q hqq
      rw [call2 m_distance, dist_C (hq q hqq) hp, call2 m_distance, dist_C hn hp, f_bin, o_lt, opt_some, f_of, f_if, if_neg (by simp; omega)]), Pm.pure_bind]
  rw [f_u2, e1, f_tru, t_lst, opt_some, f_if, if_neg (by simp), call2 m_nearest, nearest_eq h0 hz hq hp, near_ix h0]
  exact ne_false (okd_col 39 _) _ _
theorem for_few (w h : Int) {ps qs : List C4} (P N : D) (h0 : qs ≠ []) (hz : qs.length ≤ 1000) (hq : ∀ q ∈ qs, okc q) (k : Unit → M D) : ∀ (l : List C4), (∀ p ∈ l, okc p) → fFor (l0__law_few_holds P (.tup (qs.map col)) N) (zipL (l.map col) ((l.map (nearC qs)).map col)) () k = k ()
  | [], _ => rfl
  | p :: l, hp => by
    rw [List.map_cons, List.map_cons, List.map_cons, zl_cons, for_cons, few_turn w h (ps := ps) P N h0 hz hq (hp p List.mem_cons_self), for_few w h (ps := ps) P N h0 hz hq k l fun x hx => hp x (List.mem_cons_of_mem _ hx)]
theorem few_holds (w h : Int) {ps qs : List C4} (hl : ps.length ≤ 5000) (hp : ∀ p ∈ ps, okc p) (h0 : qs ≠ []) (hz : qs.length ≤ 1000) (hq : ∀ q ∈ qs, okc q) : m__law_few_holds [picL w h ps, .tup (qs.map col)] = M.pure (.bl true) := by
  have hnm : ∀ p ∈ ps.map (nearC qs), p ∈ qs := fun p hp => by
    obtain ⟨q, _, rfl⟩ := List.mem_map.mp hp
    exact near_mem h0 q
  have hn : ∀ p ∈ ps.map (nearC qs), okc p := fun p hp => hq p (hnm p hp)
  have e1 : (fLCf (fItems (M.pure (.tup ((ps.map (nearC qs)).map col)))) fun _law_cell_ => fIf (fOf (fBin ninD (M.pure _law_cell_) (M.pure (.tup (qs.map col))))) (M.bind (M.pure _law_cell_) fun y_ => M.pure (some y_)) (M.pure none)) = M.pure (.lst []) := by
    rw [f_items, i_tup, opt_some, f_lcf, flt_none (fun q hqq => by
      rw [f_bin, nin_tup (hnm q hqq), opt_some, f_of, f_if, if_neg (by simp)]), Pm.pure_bind]
  have e2 : (ps.map (nearC qs)).map (nearC qs) = ps.map (nearC qs) := by
    refine (List.map_congr_left fun p hp => near_self (hnm p hp)).trans (List.map_id _)
  show p__law_few_holds _ _ = _
  unfold p__law_few_holds
  rw [call2 m_in_few, few_ok w h hl hp h0 hz hq, Pm.pure_bind, sl_pic, sl_pic, f_bin, o_ne_self rfl, opt_some, f_of, f_orB, if_neg (by simp), i2_pic, e1, f_tru, t_lst, opt_some, f_if, if_neg (by simp)]
  rw [call2 m_in_few, few_ok w h (by rw [List.length_map]; exact hl) hn h0 hz hq, e2, ne_false (okd_pic _ _ _), i2_pic]
  show (M.pure (zipL (ps.map col) ((ps.map (nearC qs)).map col))).bind _ = _
  rw [Pm.pure_bind, for_few w h (ps := ps) _ _ h0 hz hq _ ps hp, call2 m_faults, faults_ok w h hp hp, flt_self, f_bin, o_eq, opt_some, f_and, if_pos (by decide), call2 m_faults, faults_ok w h hp hn, call2 m_faults, faults_ok w h hn hp, flt_sym (ps.map _) ps, f_bin, o_eq, opt_some]
  simp

theorem part_turn (P Mn Pl : D) {es : List C4} (he : es ≠ []) {c : C4} {p : Nat} (hp : p < 4) (hb : mnL (es.map fun c => prt c p) ≤ prt c p ∧ prt c p ≤ mxL (es.map fun c => prt c p)) (k : Unit → M D) : l1__law_palette_holds P Mn Pl (.lst (es.map col)) (col c) (.int p) () k = k () := by
  have hne : es.map (fun c => prt c p) ≠ [] := fun z => he (List.map_eq_nil_iff.mp z)
  have e1 : (fLC (fItems (M.pure (.lst (es.map col)))) fun _law_one_ => (fBin ixD (M.pure _law_one_) (M.pure (.int p)))) = M.pure (.lst ((es.map fun c => prt c p).map D.int)) := by
    rw [f_items, i_lst, opt_some, f_lc, map_of (g := fun e : C4 => .int (prt e p)) (fun e _ => by rw [f_bin, ix_prt e hp, opt_some]), Pm.pure_bind, List.map_map]
    rfl
  unfold l1__law_palette_holds
  rw [e1, Pm.pure_bind, min_go hne, max_go hne, f_bin, ix_prt c hp, opt_some, f_chain, o_le, opt_some, Pm.pure_bind, bl_bl, opt_some, Pm.pure_bind, decide_eq_true hb.1, if_pos rfl, Pm.pure_bind, o_le, opt_some, f_of, f_notB, f_if, decide_eq_true hb.2, if_neg (by simp)]
theorem rg4 : fRng (fCons (M.pure (D.int 4)) fNil) = M.pure [.int ((0 : Nat) : Int), .int ((1 : Nat) : Int), .int ((2 : Nat) : Int), .int ((3 : Nat) : Int)] := by kernel_rfl
theorem col_turn (P Mn Pl : D) {es : List C4} (he : es ≠ []) {c : C4} (hc : okc c) (hb : ∀ p, p < 4 → mnL (es.map fun c => prt c p) ≤ prt c p ∧ prt c p ≤ mxL (es.map fun c => prt c p)) (k : Unit → M D) : l0__law_palette_holds P Mn Pl (.lst (es.map col)) (col c) () k = k () := by
  unfold l0__law_palette_holds
  rw [call1 m_is_colour, col_ok hc, not_true, rg4, Pm.pure_bind, for_cons, part_turn P Mn Pl he (by decide) (hb 0 (by decide)), for_cons, part_turn P Mn Pl he (by decide) (hb 1 (by decide)), for_cons, part_turn P Mn Pl he (by decide) (hb 2 (by decide)), for_cons, part_turn P Mn Pl he (by decide) (hb 3 (by decide)), for_nil]
theorem for_cols (P Mn Pl : D) {es : List C4} (he : es ≠ []) (k : Unit → M D) : ∀ (l : List C4), (∀ c ∈ l, okc c ∧ ∀ p, p < 4 → mnL (es.map fun c => prt c p) ≤ prt c p ∧ prt c p ≤ mxL (es.map fun c => prt c p)) → fFor (l0__law_palette_holds P Mn Pl (.lst (es.map col))) (l.map col) () k = k ()
  | [], _ => rfl
  | c :: l, h => by
    rw [List.map_cons, for_cons, col_turn P Mn Pl he (h c List.mem_cons_self).1 (h c List.mem_cons_self).2, for_cols P Mn Pl he k l fun x hx => h x (List.mem_cons_of_mem _ hx)]
theorem palette_ok (w h : Int) {ps : List C4} (h0 : ps ≠ []) (hl : ps.length ≤ 60) (hc : ∀ p ∈ ps, okc p) (j : Nat) (hj : j ≤ 50) : m_palette_for [picL w h ps, .int ((1 + j : Nat) : Int)] = M.pure (.tup ((palC ps j).map col)) := palette_eq _ _ h0 (by omega) hc j hj
theorem palette_holds (w h : Int) {ps : List C4} (h0 : ps ≠ []) (hl : ps.length ≤ 60) (hc : ∀ p ∈ ps, okc p) (j : Nat) (hj : j ≤ 50) : m__law_palette_holds [picL w h ps, .int ((1 + j : Nat) : Int)] = M.pure (.bl true) := by
  obtain ⟨l1, l2⟩ := pal_len h0 (by omega) hc j
  have hok := pal_ok h0 (by omega) hc j
  have hne : palC ps j ≠ [] := fun z => by rw [z] at l1; simp at l1
  have hidem : colsC (palC ps j) = palC ps j := cols_idem _
  have e0 : fLC (fItems (fCall m_colours_of (fCons (M.pure (picL w h ps)) fNil))) (fun it1_ => (fU2 it1_ fun _law_colour_ _law_count_ => (M.pure _law_colour_))) = M.pure (.lst ((colsC ps).map col)) := by
    rw [call1 m_colours_of, show m_colours_of [picL w h ps] = _ from colours_eq _ _ (by omega), f_items, i_tup, opt_some, f_lc, map_of (f := fun it1_ => (fU2 it1_ fun _law_colour_ _law_count_ => (M.pure _law_colour_))) (E := itC) (g := fun e : CN => col e.1) (fun e _ => rfl), Pm.pure_bind]
    unfold colsC
    rw [List.map_map]; rfl
  have ch : fOf (fChain leD leD (M.pure (D.int 1)) (fCB lenF (fCons (M.pure (.tup ((palC ps j).map col))) fNil)) (M.pure (.int ((1 + j : Nat) : Int)))) = M.pure true := by
    rw [f_nil, f_cons, f_cb, b_len_t, opt_some, List.length_map, f_chain, o_le, opt_some, Pm.pure_bind, bl_bl, opt_some, Pm.pure_bind, decide_eq_true (by omega), if_pos rfl, Pm.pure_bind, o_le, opt_some, f_of, decide_eq_true (by omega)]
  have es : fCB ssF (fCons (M.pure (.tup ((palC ps j).map col))) fNil) = M.pure (.lst ((palC ps j).map col)) := by
    rw [ss_tup hne (by omega) hok, hidem]
  have el : fCB lstF (fCons (M.pure (.tup ((palC ps j).map col))) fNil) = M.pure (.lst ((palC ps j).map col)) := rfl
  show p__law_palette_holds _ _ = _
  unfold p__law_palette_holds
  rw [call2 m_palette_for, palette_ok w h h0 hl hc j hj, Pm.pure_bind, e0, Pm.pure_bind, ch, f_notB, f_orB, if_neg (by simp), el, es, ne_false (okd_lcells 38 _), f_items, i_tup, opt_some, Pm.pure_bind]
  rw [for_cols _ _ _ (cols_ne h0) _ (palC ps j) fun c hcc => ⟨hok c hcc, fun p hp => pal_btw h0 (by omega) hp hcc⟩]
  have eln : fCB lenF (fCons (M.pure (.lst ((colsC ps).map col))) fNil) = M.pure (.int (colsC ps).length) := by
    rw [f_nil, f_cons, f_cb, b_len_l, opt_some, List.length_map]
  rw [eln, f_bin, o_ge, opt_some, f_of, f_if]
  by_cases z : (colsC ps).length ≤ 1 + j
  · rw [decide_eq_true (by omega), if_pos rfl]
    have hall := pal_all h0 (by omega) z
    have hmem : ∀ p ∈ ps, p ∈ palC ps j := fun p hp => by rw [hall]; exact cols_mem hp
    have e2 : ps.map (nearC (palC ps j)) = ps := (List.map_congr_left fun p hp => near_self (hmem p hp)).trans (List.map_id _)
    rw [call2 m_in_few, few_ok w h (by omega) hc hne (by omega) hok, e2, f_bin, hall, o_eq_self (okd_lcells 38 _), opt_some, f_and, if_pos rfl, f_bin, o_eq_self (okd_pic _ _ _), opt_some]
  · rw [decide_eq_false (by omega), if_neg (by simp), call2 m__law_few_holds]
    exact few_holds w h (by omega) hc hne (by omega) hok
theorem step (ns : List Int) (hn : ns.length ≤ 63) (x : D) (K : Nat) (k : Unit → M D) (hk : ∀ st, True → Dr K (k st) (· = .bl true)) : Dr (500 + K) (l0_law (.scr ns) .town x () k) (· = .bl true) := by
  have e0 : ∀ (a : D), fCall m__law_draw (fCons (M.pure (.scr ns)) (fCons (M.pure .town) (fCons (M.pure a) fNil))) = m__law_draw [.scr ns, .town, a] := fun a => rfl
  have one : ∀ (w h : Nat) (c : Nat → Nat → C4) (j : Nat) (k : Unit → M D), 1 ≤ w ∧ w ≤ 5 → 1 ≤ h ∧ h ≤ 5 → okG w h c → j ≤ 50 → l1_law (.scr ns) .town (picC w h c) (.int ((1 + j : Nat) : Int)) () k = k () := fun w h c j k hw hh hc hj => by
    have ep : ∀ (w h : Nat) (c : Nat → Nat → C4), picC w h c = picL w h (gridL w h c).flatten := fun w h c => by
      unfold picL
      rw [grid_map]; rfl
    have hz1 : 1 * 1 ≤ w * h := Nat.mul_le_mul hw.1 hh.1
    have hz : w * h ≤ 5 * 5 := Nat.mul_le_mul hw.2 hh.2
    have hz' : h * w ≤ 5 * 5 := Nat.mul_le_mul hh.2 hw.2
    have h0 : (gridL w h c).flatten ≠ [] := fun z => by
      have := cells_len (w := w) (h := h) (c := c)
      rw [z] at this
      simp only [List.length_nil] at this
      omega
    have hl : (gridL w h c).flatten.length ≤ 60 := by rw [cells_len]; omega
    have hok : ∀ p ∈ (gridL w h c).flatten, okc p := fun p hp => by
      obtain ⟨x, y, hx, hy, rfl⟩ := mem_grid hp
      exact hc x y hx hy
    have hpt := perm_tur w h c
    have hpm := perm_mir w h c
    unfold l1_law
    rw [call1 m_turned, turnedF (by omega) (by omega), call1 m_mirrored, mirroredF (by omega) (by omega)]
    show fIf (fNotB (fTru (fCall m__law_palette_holds (fCons (M.pure (picC w h c)) _)))) _ (M.bind (fCall m_palette_for (fCons (M.pure (picC w h c)) _)) fun _law_told_ => fIf (fOf (fBin neD (fCall m_palette_for (fCons (M.pure (picC h w fun i j => c j (h - 1 - i))) _)) (M.pure _law_told_))) _ (fIf (fOf (fBin neD (fCall m_palette_for (fCons (M.pure (picC w h fun i j => c (w - 1 - i) j)) _)) (M.pure _law_told_))) _ (k ()))) = _
    rw [ep, ep, ep, call2 m__law_palette_holds, palette_holds _ _ h0 hl hok j hj, not_true, call2 m_palette_for, palette_ok _ _ h0 hl hok j hj, Pm.pure_bind]
    have ok2 : ∀ qs : List C4, qs.Perm (gridL w h c).flatten → qs ≠ [] ∧ qs.length ≤ 60 ∧ (∀ p ∈ qs, okc p) ∧ palC qs j = palC (gridL w h c).flatten j := fun qs hq => by
      have h1 : qs ≠ [] := fun z => h0 (by rw [z] at hq; exact hq.symm.eq_nil)
      exact ⟨h1, by rw [hq.length_eq]; exact hl, fun p hp => hok p (hq.mem_iff.mp hp), pal_perm h1 hq j⟩
    obtain ⟨a1, a2, a3, a4⟩ := ok2 _ hpt
    obtain ⟨b1, b2, b3, b4⟩ := ok2 _ hpm
    rw [call2 m_palette_for, palette_ok _ _ a1 a2 a3 j hj, a4, ne_false (okd_cells 38 _), call2 m_palette_for, palette_ok _ _ b1 b2 b3 j hj, b4, ne_false (okd_cells 38 _)]
  unfold l0_law
  rw [e0, add_m, Pm.bind_assoc]
  refine Dr.then 2 (dr_draw hn (by decide)) (by omega) fun d ⟨r1, e, a1, a2⟩ => ?_
  subst e
  rw [o_add, opt_some, Pm.pure_bind, Pm.bind_assoc]
  refine Dr.then 2 (dr_draw hn (by decide)) (by omega) fun d ⟨r2, e, b1, b2⟩ => ?_
  subst e
  rw [o_add, opt_some, Pm.pure_bind]
  obtain ⟨w, hw⟩ : ∃ w : Nat, 1 + r1 = (w : Int) := ⟨(1 + r1).toNat, by omega⟩
  obtain ⟨h, hh⟩ : ∃ h : Nat, 1 + r2 = (h : Int) := ⟨(1 + r2).toNat, by omega⟩
  rw [hw, hh]
  have w1 : 1 ≤ w ∧ w ≤ 5 := by omega
  have h1 : 1 ≤ h ∧ h ≤ 5 := by omega
  have hz : w * h ≤ 5 * 5 := Nat.mul_le_mul w1.2 h1.2
  have hz1 : 1 * 1 ≤ w * h := Nat.mul_le_mul w1.1 h1.1
  rw [call5 m__law_drawn_picture]
  refine Dr.then (14 * 6 + 50) ((dr_pic hn (by omega) (by omega) (by omega) (by decide)).more (by show 14 * 6 + 2 * (w * h) ≤ _; omega)) (by omega) fun d ⟨c, e, hc0⟩ => ?_
  subst e
  have hc : okG w h c := fun x y _ _ => hc0 x y
  have lc : ∀ (m : M D) (f : D → M D), fLC (fRng (fCons m fNil)) f = m.bind fun d => (M.opt (rngF [d])).bind fun l => (fMapM f l).bind fun r => M.pure (.lst r) := fun m f => by
    simp only [fCons, fNil, fLC, fRng, Pm.bind_assoc, Pm.pure_bind]
  have tl : ∀ (m : M D), fCB tupF (fCons m fNil) = m.bind fun d => M.opt (tupF [d]) := fun m => by
    simp only [fCB, fCons, fNil, Pm.bind_assoc, Pm.pure_bind]
  rw [tl, Pm.bind_assoc, lc, add_m, Pm.bind_assoc, Pm.bind_assoc, e0]
  refine Dr.then 2 (dr_draw hn (by decide)) (by omega) fun d ⟨r3, e, c1, c2⟩ => ?_
  subst e
  rw [o_add, opt_some, Pm.pure_bind, rng_A (by omega) (by omega), opt_some, Pm.pure_bind, Pm.bind_assoc]
  have dm := dr_map (f := fun _ => m__law_drawn_colour [.scr ns, .town]) (P := fun d => ∃ c, d = col c ∧ okc c) 14 ((List.range (1 + r3).toNat).map fun (k : Nat) => D.int k) (fun x _ => dr_colour hn)
  rw [List.length_map, List.length_range] at dm
  refine Dr.then 56 (dm.more (by omega)) (by omega) fun l ⟨g1, g2⟩ => ?_
  obtain ⟨qs, rfl, g3, g4⟩ := exl g2
  rw [List.length_map] at g1 g3
  have hq0 : qs ≠ [] := by
    intro z
    subst z
    simp at g1
    omega
  have hql : qs.length ≤ 4 := by omega
  rw [Pm.pure_bind, b_tup_l, opt_some, Pm.pure_bind]
  have am : ∀ (m : M D), fBin addD (M.pure (.tup (qs.map col))) (fTup (fCons m fNil)) = m.bind fun d => M.opt (addD (.tup (qs.map col)) (.tup [d])) := fun m => by
    simp only [fBin, fTup, fCons, fNil, Pm.bind_assoc, Pm.pure_bind]
  rw [am, Pm.bind_assoc]
  refine Dr.then 14 (dr_colour hn) (by omega) fun d ⟨q, e, hq⟩ => ?_
  subst e
  have mo : addD (.tup (qs.map col)) (.tup [col q]) = some (.tup ((qs ++ [q]).map col)) := by
    rw [o_addT (by rw [List.length_map]; simp; omega), List.map_append]; rfl
  rw [mo, opt_some, Pm.pure_bind]
  have ep : picC w h c = picL w h (gridL w h c).flatten := by
    unfold picL
    rw [grid_map]; rfl
  have hok : ∀ p ∈ (gridL w h c).flatten, okc p := fun p hp => by
    obtain ⟨x, y, hx, hy, rfl⟩ := mem_grid hp
    exact hc x y hx hy
  have hl : (gridL w h c).flatten.length ≤ 60 := by rw [cells_len]; omega
  have hq1 : qs ++ [q] ≠ [] := by simp
  have hq2 : (qs ++ [q]).length ≤ 5 := by simp; omega
  have hq3 : ∀ p ∈ qs ++ [q], okc p := fun p hp => by
    rcases List.mem_append.mp hp with z | z
    · exact g4 p z
    · rw [List.mem_singleton.mp z]; exact hq
  have nk : ∀ (rs : List C4), rs ≠ [] → (∀ p ∈ rs, okc p) → ∀ p ∈ ((gridL w h c).flatten).map (nearC rs), okc p := fun rs h0 hr p hp => by
    obtain ⟨y, _, rfl⟩ := List.mem_map.mp hp
    exact hr _ (near_mem h0 y)
  rw [ep, call2 m__law_few_holds, few_holds _ _ (by omega) hok hq0 (by omega) g4, not_true]
  rw [call2 m_in_few, few_ok _ _ (by omega) hok hq1 (by omega) hq3, call2 m_in_few, few_ok _ _ (by omega) hok hq0 (by omega) g4, call2 m_faults, faults_ok _ _ hok (nk _ hq1 hq3), call2 m_faults, faults_ok _ _ hok (nk _ hq0 g4), f_bin, o_gt, opt_some, f_of, f_if, decide_eq_false (by
    have := flt_more (gridL w h c).flatten hq0 (more := qs ++ [q]) fun p hp => List.mem_append_left _ hp
    omega), if_neg (by simp), ← ep]
  rw [show fItems (fTup (fCons (M.pure (D.int 1)) (fCons (M.pure (D.int 2)) (fCons (M.pure (D.int 3)) (fCons (M.pure (D.int 9)) fNil))))) = M.pure [.int ((1 + 0 : Nat) : Int), .int ((1 + 1 : Nat) : Int), .int ((1 + 2 : Nat) : Int), .int ((1 + 8 : Nat) : Int)] from rfl, Pm.pure_bind, for_cons, one w h c 0 _ w1 h1 hc (by omega), for_cons, one w h c 1 _ w1 h1 hc (by omega), for_cons, one w h c 2 _ w1 h1 hc (by omega), for_cons, one w h c 8 _ w1 h1 hc (by omega), for_nil]
  exact (hk () trivial).more (by omega)
theorem law_true : ∀ ns : List Int, ns.length ≤ 63 → ∃ w', m_law [.scr ns] ⟨none, []⟩ = .ok (.bl true) w' := by
  intro ns hn
  have h : Dr 100000 ((M.bind (fRng (fCons (M.pure (.int 5)) fNil)) fun xs1_ => fFor (l0_law (.scr ns) .town) xs1_ () fun _ => (M.pure (.bl true)))) (· = .bl true) := by
    simp only [in_int, ng_int, mx_nil, mx_cons, o_ne_self, o_eq_self, ls_lst, Pm.pure_bind, bad_bind, raise_bind, opt_some, opt_none, Pm.bind_assoc, Pm.bind_pure, f_bin, f_nil, f_cons, f_tup, f_lst, f_call, f_cb, f_if, f_of, f_ofv, f_tru, f_andB, f_orB, f_notB, f_and, f_or, f_not, f_neg, f_chain, f_sl, f_ono, f_oso, f_items, f_zip, f_enum, f_rng, f_lc, f_lcf, f_lc2, f_in, f_lz, f_app, f_ext, f_seti, f_isi, f_u2, f_u3, f_u4, i_tup, i_lst, z_tup, z_lst, zl_nil, zl_cons, en_tup, en_lst, en_nil, en_cons, x_nil, x_cons, x_map, x_pure, xf_nil, xf_cons, xc_nil, xc_cons, noEx_pure, o_add, o_sub, o_lt, o_le, o_gt, o_ge, o_eq, o_ne, o_mulL, o_mulR, o_div, o_mod, o_addT, o_addL, o_iadd, Pm.ix_tup, ix_lst, Pm.sl_tup, sl_lst, b_len_t, b_len_l, b_abs, b_int_i, b_int_b, b_sum, b_all, b_any, b_tup_l, b_tup_t, b_lst_l, b_lst_t, b_max2, b_max3, b_min2, b_min3, t_bl, t_int, t_tup, t_lst, t_non, a_app, a_ext, bl_bl, decide_true, decide_false, Bool.not_true, Bool.not_false, if_true, if_false, Bool.false_eq_true, for_nil, for_cons, ls_cons, ls_nil, at0, at1, at2, at3, at4, List.cons_append, List.nil_append, List.length_cons, List.length_nil, List.length_map, n_ot, isi_int', isi_bool', isi_tup', isi_str', dn_non, dn_int, dn_tup, dn_str, dn_bl, dnn_non, dnn_int, dnn_tup, dnn_str, dnn_bl, decide_eq_true_eq, fBin, fCons, fTup, fLst, fCall, fCB, fIf, fOf, fTru, fAndB, fOrB, fNotB, fAnd, fOr, fNot, fNeg, fChain, fSl, fOSo, fItems, fZip, fEnum, fRng, fLC, fLCf, fLC2, fIn, fLz, fApp, fExt, fSetI, fIsi, rng_A (j := 5) (by decide) (by decide)]
    exact Dr.more (dr_for (fun _ => True) 500 0 _ _ (fun x _ st i k _ hk => step ns hn x i k hk) _ trivial fun _ _ => Dr.pure rfl) (by simp)
  obtain ⟨a, t', n, h1, rfl, _⟩ := h [] [] (by simp)
  exact ⟨_, h1⟩
end Lw
namespace Lw
open PySem PySem.Spec PyProof.Rows L2 Pm

theorem hd_mk {K : PySem.W.Frag} {h : Heap} {mg : Str → Option Value} (X : K.In h) (G : h.Ns mainGlobals mg) {f0 : Addr} {od0 an0 : Option Addr} {sl0 : Array (Option Value)} {oc0 kV0 dc0 pm0 cd0 ct0 : Value} {f1 : Addr} {od1 an1 : Option Addr} {sl1 : Array (Option Value)} {oc1 kV1 dc1 pm1 cd1 ct1 : Value} {f2 : Addr} {od2 an2 : Option Addr} {sl2 : Array (Option Value)} {oc2 kV2 dc2 pm2 cd2 ct2 : Value} {f3 : Addr} {od3 an3 : Option Addr} {sl3 : Array (Option Value)} {oc3 kV3 dc3 pm3 cd3 ct3 : Value} {f4 : Addr} {od4 an4 : Option Addr} {sl4 : Array (Option Value)} {oc4 kV4 dc4 pm4 cd4 ct4 : Value} {f5 : Addr} {od5 an5 : Option Addr} {sl5 : Array (Option Value)} {oc5 kV5 dc5 pm5 cd5 ct5 : Value} {f6 : Addr} {od6 an6 : Option Addr} {sl6 : Array (Option Value)} {oc6 kV6 dc6 pm6 cd6 ct6 : Value} {f7 : Addr} {od7 an7 : Option Addr} {sl7 : Array (Option Value)} {oc7 kV7 dc7 pm7 cd7 ct7 : Value} {f8 : Addr} {od8 an8 : Option Addr} {sl8 : Array (Option Value)} {oc8 kV8 dc8 pm8 cd8 ct8 : Value} {f9 : Addr} {od9 an9 : Option Addr} {sl9 : Array (Option Value)} {oc9 kV9 dc9 pm9 cd9 ct9 : Value} {f10 : Addr} {od10 an10 : Option Addr} {sl10 : Array (Option Value)} {oc10 kV10 dc10 pm10 cd10 ct10 : Value} {f11 : Addr} {od11 an11 : Option Addr} {sl11 : Array (Option Value)} {oc11 kV11 dc11 pm11 cd11 ct11 : Value} {f12 : Addr} {od12 an12 : Option Addr} {sl12 : Array (Option Value)} {oc12 kV12 dc12 pm12 ct12 : Value} {mc12 mT12 : Addr} {mo12 : Value} {md12 : Option Addr} {mv12 : Array Value} {ms12 : Array (Option Value)} {f13 : Addr} {od13 an13 : Option Addr} {sl13 : Array (Option Value)} {oc13 kV13 dc13 pm13 cd13 ct13 : Value} {f14 : Addr} {od14 an14 : Option Addr} {sl14 : Array (Option Value)} {oc14 kV14 dc14 pm14 cd14 ct14 : Value} {f15 : Addr} {od15 an15 : Option Addr} {sl15 : Array (Option Value)} {oc15 kV15 dc15 pm15 cd15 ct15 : Value} {f16 : Addr} {od16 an16 : Option Addr} {sl16 : Array (Option Value)} {oc16 kV16 dc16 pm16 cd16 ct16 : Value} {f17 : Addr} {od17 an17 : Option Addr} {sl17 : Array (Option Value)} {oc17 kV17 dc17 pm17 cd17 ct17 : Value} {f18 : Addr} {od18 an18 : Option Addr} {sl18 : Array (Option Value)} {oc18 kV18 dc18 pm18 cd18 ct18 : Value} {f19 : Addr} {od19 an19 : Option Addr} {sl19 : Array (Option Value)} {oc19 kV19 dc19 pm19 cd19 ct19 : Value} {f20 : Addr} {od20 an20 : Option Addr} {sl20 : Array (Option Value)} {oc20 kV20 dc20 pm20 cd20 ct20 : Value} {f21 : Addr} {od21 an21 : Option Addr} {sl21 : Array (Option Value)} {oc21 kV21 dc21 pm21 cd21 ct21 : Value} {f22 : Addr} {od22 an22 : Option Addr} {sl22 : Array (Option Value)} {oc22 kV22 dc22 pm22 cd22 ct22 : Value} {f23 : Addr} {od23 an23 : Option Addr} {sl23 : Array (Option Value)} {oc23 kV23 dc23 pm23 cd23 ct23 : Value} {f24 : Addr} {od24 an24 : Option Addr} {sl24 : Array (Option Value)} {oc24 kV24 dc24 pm24 cd24 ct24 : Value} {xc0 : Addr}
    (a0 : PySem.W.nsIn K mainGlobals "_law_draw" = some (some (.ref f0))) (l0 : K.lookup f0 = some ⟨oc0, od0, .func (PySem.W.fnOf "_law_draw" "_law_draw" (defArgs (topS 26)) (defBody (topS 26)) (defScope (topS 26)) .none kV0 dc0 pm0 an0 cd0 ct0), sl0⟩) (c0 : PySem.W.codeIn K cd0 "_law_draw" = true) (k0 : PySem.W.keepIn K (.ref f0) = true)
    (a1 : PySem.W.nsIn K mainGlobals "_law_pick" = some (some (.ref f1))) (l1 : K.lookup f1 = some ⟨oc1, od1, .func (PySem.W.fnOf "_law_pick" "_law_pick" (defArgs (topS 27)) (defBody (topS 27)) (defScope (topS 27)) .none kV1 dc1 pm1 an1 cd1 ct1), sl1⟩) (c1 : PySem.W.codeIn K cd1 "_law_pick" = true) (k1 : PySem.W.keepIn K (.ref f1) = true)
    (a2 : PySem.W.nsIn K mainGlobals "_law_drawn_colour" = some (some (.ref f2))) (l2 : K.lookup f2 = some ⟨oc2, od2, .func (PySem.W.fnOf "_law_drawn_colour" "_law_drawn_colour" (defArgs (topS 28)) (defBody (topS 28)) (defScope (topS 28)) .none kV2 dc2 pm2 an2 cd2 ct2), sl2⟩) (c2 : PySem.W.codeIn K cd2 "_law_drawn_colour" = true) (k2 : PySem.W.keepIn K (.ref f2) = true)
    (a3 : PySem.W.nsIn K mainGlobals "_law_drawn_picture" = some (some (.ref f3))) (l3 : K.lookup f3 = some ⟨oc3, od3, .func (PySem.W.fnOf "_law_drawn_picture" "_law_drawn_picture" (defArgs (topS 29)) (defBody (topS 29)) (defScope (topS 29)) .none kV3 dc3 pm3 an3 cd3 ct3), sl3⟩) (c3 : PySem.W.codeIn K cd3 "_law_drawn_picture" = true) (k3 : PySem.W.keepIn K (.ref f3) = true)
    (a4 : PySem.W.nsIn K mainGlobals "colours_of" = some (some (.ref f4))) (l4 : K.lookup f4 = some ⟨oc4, od4, .func (PySem.W.fnOf "colours_of" "colours_of" (defArgs (topS 16)) (defBody (topS 16)) (defScope (topS 16)) .none kV4 dc4 pm4 an4 cd4 ct4), sl4⟩) (c4 : PySem.W.codeIn K cd4 "colours_of" = true) (k4 : PySem.W.keepIn K (.ref f4) = true)
    (a5 : PySem.W.nsIn K mainGlobals "distance" = some (some (.ref f5))) (l5 : K.lookup f5 = some ⟨oc5, od5, .func (PySem.W.fnOf "distance" "distance" (defArgs (topS 8)) (defBody (topS 8)) (defScope (topS 8)) .none kV5 dc5 pm5 an5 cd5 ct5), sl5⟩) (c5 : PySem.W.codeIn K cd5 "distance" = true) (k5 : PySem.W.keepIn K (.ref f5) = true)
    (a6 : PySem.W.nsIn K mainGlobals "nearest" = some (some (.ref f6))) (l6 : K.lookup f6 = some ⟨oc6, od6, .func (PySem.W.fnOf "nearest" "nearest" (defArgs (topS 17)) (defBody (topS 17)) (defScope (topS 17)) .none kV6 dc6 pm6 an6 cd6 ct6), sl6⟩) (c6 : PySem.W.codeIn K cd6 "nearest" = true) (k6 : PySem.W.keepIn K (.ref f6) = true)
    (a7 : PySem.W.nsIn K mainGlobals "in_few" = some (some (.ref f7))) (l7 : K.lookup f7 = some ⟨oc7, od7, .func (PySem.W.fnOf "in_few" "in_few" (defArgs (topS 18)) (defBody (topS 18)) (defScope (topS 18)) .none kV7 dc7 pm7 an7 cd7 ct7), sl7⟩) (c7 : PySem.W.codeIn K cd7 "in_few" = true) (k7 : PySem.W.keepIn K (.ref f7) = true)
    (a8 : PySem.W.nsIn K mainGlobals "must_be_as_great" = some (some (.ref f8))) (l8 : K.lookup f8 = some ⟨oc8, od8, .func (PySem.W.fnOf "must_be_as_great" "must_be_as_great" (defArgs (topS 14)) (defBody (topS 14)) (defScope (topS 14)) .none kV8 dc8 pm8 an8 cd8 ct8), sl8⟩) (c8 : PySem.W.codeIn K cd8 "must_be_as_great" = true) (k8 : PySem.W.keepIn K (.ref f8) = true)
    (a9 : PySem.W.nsIn K mainGlobals "faults" = some (some (.ref f9))) (l9 : K.lookup f9 = some ⟨oc9, od9, .func (PySem.W.fnOf "faults" "faults" (defArgs (topS 19)) (defBody (topS 19)) (defScope (topS 19)) .none kV9 dc9 pm9 an9 cd9 ct9), sl9⟩) (c9 : PySem.W.codeIn K cd9 "faults" = true) (k9 : PySem.W.keepIn K (.ref f9) = true)
    (a10 : PySem.W.nsIn K mainGlobals "_law_few_holds" = some (some (.ref f10))) (l10 : K.lookup f10 = some ⟨oc10, od10, .func (PySem.W.fnOf "_law_few_holds" "_law_few_holds" (defArgs (topS 30)) (defBody (topS 30)) (defScope (topS 30)) .none kV10 dc10 pm10 an10 cd10 ct10), sl10⟩) (c10 : PySem.W.codeIn K cd10 "_law_few_holds" = true) (k10 : PySem.W.keepIn K (.ref f10) = true)
    (a11 : PySem.W.nsIn K mainGlobals "spreads" = some (some (.ref f11))) (l11 : K.lookup f11 = some ⟨oc11, od11, .func (PySem.W.fnOf "spreads" "spreads" (defArgs (topS 20)) (defBody (topS 20)) (defScope (topS 20)) .none kV11 dc11 pm11 an11 cd11 ct11), sl11⟩) (c11 : PySem.W.codeIn K cd11 "spreads" = true) (k11 : PySem.W.keepIn K (.ref f11) = true)
    (a12 : PySem.W.nsIn K mainGlobals "cut_box" = some (some (.ref f12))) (l12 : K.lookup f12 = some ⟨oc12, od12, .func (PySem.W.fnOf "cut_box" "cut_box" (defArgs (topS 21)) (defBody (topS 21)) (defScope (topS 21)) .none kV12 dc12 pm12 an12 (.ref mc12) ct12), sl12⟩) (c12 : PySem.W.codeIn K (.ref mc12) "cut_box" = true) (k12 : PySem.W.keepIn K (.ref f12) = true)
    (lc12 : K.lookup mc12 = some ⟨mo12, md12, .fields mv12, ms12⟩) (lt12 : (mv12[11]? : Option Value) = some (.ref mT12))
    (a13 : PySem.W.nsIn K mainGlobals "rounded" = some (some (.ref f13))) (l13 : K.lookup f13 = some ⟨oc13, od13, .func (PySem.W.fnOf "rounded" "rounded" (defArgs (topS 7)) (defBody (topS 7)) (defScope (topS 7)) .none kV13 dc13 pm13 an13 cd13 ct13), sl13⟩) (c13 : PySem.W.codeIn K cd13 "rounded" = true) (k13 : PySem.W.keepIn K (.ref f13) = true)
    (a14 : PySem.W.nsIn K mainGlobals "mean_of" = some (some (.ref f14))) (l14 : K.lookup f14 = some ⟨oc14, od14, .func (PySem.W.fnOf "mean_of" "mean_of" (defArgs (topS 22)) (defBody (topS 22)) (defScope (topS 22)) .none kV14 dc14 pm14 an14 cd14 ct14), sl14⟩) (c14 : PySem.W.codeIn K cd14 "mean_of" = true) (k14 : PySem.W.keepIn K (.ref f14) = true)
    (a15 : PySem.W.nsIn K mainGlobals "palette_for" = some (some (.ref f15))) (l15 : K.lookup f15 = some ⟨oc15, od15, .func (PySem.W.fnOf "palette_for" "palette_for" (defArgs (topS 23)) (defBody (topS 23)) (defScope (topS 23)) .none kV15 dc15 pm15 an15 cd15 ct15), sl15⟩) (c15 : PySem.W.codeIn K cd15 "palette_for" = true) (k15 : PySem.W.keepIn K (.ref f15) = true)
    (a16 : PySem.W.nsIn K mainGlobals "is_whole" = some (some (.ref f16))) (l16 : K.lookup f16 = some ⟨oc16, od16, .func (PySem.W.fnOf "is_whole" "is_whole" (defArgs (topS 4)) (defBody (topS 4)) (defScope (topS 4)) .none kV16 dc16 pm16 an16 cd16 ct16), sl16⟩) (c16 : PySem.W.codeIn K cd16 "is_whole" = true) (k16 : PySem.W.keepIn K (.ref f16) = true)
    (a17 : PySem.W.nsIn K mainGlobals "is_part" = some (some (.ref f17))) (l17 : K.lookup f17 = some ⟨oc17, od17, .func (PySem.W.fnOf "is_part" "is_part" (defArgs (topS 5)) (defBody (topS 5)) (defScope (topS 5)) .none kV17 dc17 pm17 an17 cd17 ct17), sl17⟩) (c17 : PySem.W.codeIn K cd17 "is_part" = true) (k17 : PySem.W.keepIn K (.ref f17) = true)
    (a18 : PySem.W.nsIn K mainGlobals "is_colour" = some (some (.ref f18))) (l18 : K.lookup f18 = some ⟨oc18, od18, .func (PySem.W.fnOf "is_colour" "is_colour" (defArgs (topS 6)) (defBody (topS 6)) (defScope (topS 6)) .none kV18 dc18 pm18 an18 cd18 ct18), sl18⟩) (c18 : PySem.W.codeIn K cd18 "is_colour" = true) (k18 : PySem.W.keepIn K (.ref f18) = true)
    (a19 : PySem.W.nsIn K mainGlobals "_law_palette_holds" = some (some (.ref f19))) (l19 : K.lookup f19 = some ⟨oc19, od19, .func (PySem.W.fnOf "_law_palette_holds" "_law_palette_holds" (defArgs (topS 31)) (defBody (topS 31)) (defScope (topS 31)) .none kV19 dc19 pm19 an19 cd19 ct19), sl19⟩) (c19 : PySem.W.codeIn K cd19 "_law_palette_holds" = true) (k19 : PySem.W.keepIn K (.ref f19) = true)
    (a20 : PySem.W.nsIn K mainGlobals "turned" = some (some (.ref f20))) (l20 : K.lookup f20 = some ⟨oc20, od20, .func (PySem.W.fnOf "turned" "turned" (defArgs (topS 12)) (defBody (topS 12)) (defScope (topS 12)) .none kV20 dc20 pm20 an20 cd20 ct20), sl20⟩) (c20 : PySem.W.codeIn K cd20 "turned" = true) (k20 : PySem.W.keepIn K (.ref f20) = true)
    (a21 : PySem.W.nsIn K mainGlobals "of_rows" = some (some (.ref f21))) (l21 : K.lookup f21 = some ⟨oc21, od21, .func (PySem.W.fnOf "of_rows" "of_rows" (defArgs (topS 11)) (defBody (topS 11)) (defScope (topS 11)) .none kV21 dc21 pm21 an21 cd21 ct21), sl21⟩) (c21 : PySem.W.codeIn K cd21 "of_rows" = true) (k21 : PySem.W.keepIn K (.ref f21) = true)
    (a22 : PySem.W.nsIn K mainGlobals "rows_of" = some (some (.ref f22))) (l22 : K.lookup f22 = some ⟨oc22, od22, .func (PySem.W.fnOf "rows_of" "rows_of" (defArgs (topS 10)) (defBody (topS 10)) (defScope (topS 10)) .none kV22 dc22 pm22 an22 cd22 ct22), sl22⟩) (c22 : PySem.W.codeIn K cd22 "rows_of" = true) (k22 : PySem.W.keepIn K (.ref f22) = true)
    (a23 : PySem.W.nsIn K mainGlobals "mirrored" = some (some (.ref f23))) (l23 : K.lookup f23 = some ⟨oc23, od23, .func (PySem.W.fnOf "mirrored" "mirrored" (defArgs (topS 13)) (defBody (topS 13)) (defScope (topS 13)) .none kV23 dc23 pm23 an23 cd23 ct23), sl23⟩) (c23 : PySem.W.codeIn K cd23 "mirrored" = true) (k23 : PySem.W.keepIn K (.ref f23) = true)
    (a24 : PySem.W.nsIn K mainGlobals "law" = some (some (.ref f24))) (l24 : K.lookup f24 = some ⟨oc24, od24, .func (PySem.W.fnOf "law" "law" (defArgs (topS 32)) (defBody (topS 32)) (defScope (topS 32)) .none kV24 dc24 pm24 an24 cd24 ct24), sl24⟩) (c24 : PySem.W.codeIn K cd24 "law" = true) (k24 : PySem.W.keepIn K (.ref f24) = true)
    (nd0 : decide ((tabsK K).map (·.1)).Nodup = true)
    (nt0 : noTup K = true)
    (xa0 : PySem.W.nsIn K mainGlobals "Uneven" = some (some (.ref xc0))) (xe0 : PySem.W.excIn K xc0 bmVE "ValueError.__new__" = true) (xk0 : PySem.W.keepIn K (.ref xc0) = true) (xs0 : PySem.W.subIn K (.ref xc0) (.type "BaseException") = some true) (xt0 : PySem.W.typeIn K (.ref xc0) = some (.type "type"))
    (z0 : PySem.W.nsIn K mainGlobals "abs" = some none)
    (z1 : PySem.W.nsIn K mainGlobals "all" = some none)
    (z2 : PySem.W.nsIn K mainGlobals "bool" = some none)
    (z3 : PySem.W.nsIn K mainGlobals "int" = some none)
    (z4 : PySem.W.nsIn K mainGlobals "isinstance" = some none)
    (z5 : PySem.W.nsIn K mainGlobals "len" = some none)
    (z6 : PySem.W.nsIn K mainGlobals "list" = some none)
    (z7 : PySem.W.nsIn K mainGlobals "max" = some none)
    (z8 : PySem.W.nsIn K mainGlobals "min" = some none)
    (z9 : PySem.W.nsIn K mainGlobals "range" = some none)
    (z10 : PySem.W.nsIn K mainGlobals "set" = some none)
    (z11 : PySem.W.nsIn K mainGlobals "sorted" = some none)
    (z12 : PySem.W.nsIn K mainGlobals "sum" = some none)
    (z13 : PySem.W.nsIn K mainGlobals "tuple" = some none)
    (z14 : PySem.W.nsIn K mainGlobals "zip" = some none)
    : Hd K mg := ⟨df_mk (st := (topS 26)) X G a0 l0 c0 k0 fun _ _ _ _ _ _ us hl => match us, hl with | [_, _, _], _ => rfl,
    df_mk (st := (topS 27)) X G a1 l1 c1 k1 fun _ _ _ _ _ _ us hl => match us, hl with | [_, _, _], _ => rfl,
    df_mk (st := (topS 28)) X G a2 l2 c2 k2 fun _ _ _ _ _ _ us hl => match us, hl with | [_, _], _ => rfl,
    df_mk (st := (topS 29)) X G a3 l3 c3 k3 fun _ _ _ _ _ _ us hl => match us, hl with | [_, _, _, _, _], _ => rfl,
    df_mk (st := (topS 16)) X G a4 l4 c4 k4 fun _ _ _ _ _ _ us hl => match us, hl with | [_], _ => rfl,
    df_mk (st := (topS 8)) X G a5 l5 c5 k5 fun _ _ _ _ _ _ us hl => match us, hl with | [_, _], _ => rfl,
    df_mk (st := (topS 17)) X G a6 l6 c6 k6 fun _ _ _ _ _ _ us hl => match us, hl with | [_, _], _ => rfl,
    df_mk (st := (topS 18)) X G a7 l7 c7 k7 fun _ _ _ _ _ _ us hl => match us, hl with | [_, _], _ => rfl,
    df_mk (st := (topS 14)) X G a8 l8 c8 k8 fun _ _ _ _ _ _ us hl => match us, hl with | [_, _], _ => rfl,
    df_mk (st := (topS 19)) X G a9 l9 c9 k9 fun _ _ _ _ _ _ us hl => match us, hl with | [_, _], _ => rfl,
    df_mk (st := (topS 30)) X G a10 l10 c10 k10 fun _ _ _ _ _ _ us hl => match us, hl with | [_, _], _ => rfl,
    df_mk (st := (topS 20)) X G a11 l11 c11 k11 fun _ _ _ _ _ _ us hl => match us, hl with | [_], _ => rfl,
    dfm_mk (st := (topS 21)) X G a12 l12 c12 k12 lc12 lt12 fun _ _ _ _ _ _ us hl => match us, hl with | [_], _ => rfl,
    df_mk (st := (topS 7)) X G a13 l13 c13 k13 fun _ _ _ _ _ _ us hl => match us, hl with | [_, _], _ => rfl,
    df_mk (st := (topS 22)) X G a14 l14 c14 k14 fun _ _ _ _ _ _ us hl => match us, hl with | [_], _ => rfl,
    df_mk (st := (topS 23)) X G a15 l15 c15 k15 fun _ _ _ _ _ _ us hl => match us, hl with | [_, _], _ => rfl,
    df_mk (st := (topS 4)) X G a16 l16 c16 k16 fun _ _ _ _ _ _ us hl => match us, hl with | [_], _ => rfl,
    df_mk (st := (topS 5)) X G a17 l17 c17 k17 fun _ _ _ _ _ _ us hl => match us, hl with | [_], _ => rfl,
    df_mk (st := (topS 6)) X G a18 l18 c18 k18 fun _ _ _ _ _ _ us hl => match us, hl with | [_], _ => rfl,
    df_mk (st := (topS 31)) X G a19 l19 c19 k19 fun _ _ _ _ _ _ us hl => match us, hl with | [_, _], _ => rfl,
    df_mk (st := (topS 12)) X G a20 l20 c20 k20 fun _ _ _ _ _ _ us hl => match us, hl with | [_], _ => rfl,
    df_mk (st := (topS 11)) X G a21 l21 c21 k21 fun _ _ _ _ _ _ us hl => match us, hl with | [_], _ => rfl,
    df_mk (st := (topS 10)) X G a22 l22 c22 k22 fun _ _ _ _ _ _ us hl => match us, hl with | [_], _ => rfl,
    df_mk (st := (topS 13)) X G a23 l23 c23 k23 fun _ _ _ _ _ _ us hl => match us, hl with | [_], _ => rfl,
    df_mk (st := (topS 32)) X G a24 l24 c24 k24 fun _ _ _ _ _ _ us hl => match us, hl with | [_], _ => rfl,
    of_decide_eq_true nd0,
    nt0,
    xk_mk X G xa0 xe0 xk0 xs0 xt0,
    PySem.W.mg_none_of X G z0,
    PySem.W.mg_none_of X G z1,
    PySem.W.mg_none_of X G z2,
    PySem.W.mg_none_of X G z3,
    PySem.W.mg_none_of X G z4,
    PySem.W.mg_none_of X G z5,
    PySem.W.mg_none_of X G z6,
    PySem.W.mg_none_of X G z7,
    PySem.W.mg_none_of X G z8,
    PySem.W.mg_none_of X G z9,
    PySem.W.mg_none_of X G z10,
    PySem.W.mg_none_of X G z11,
    PySem.W.mg_none_of X G z12,
    PySem.W.mg_none_of X G z13,
    PySem.W.mg_none_of X G z14⟩
end Lw
open PySem PySem.W PyProof.Rows
set_option maxHeartbeats 0 in
theorem PySem.Challenge.cw_paintyard_k12_whole_few_colours_holds : PySem.Challenge.rw_paintyard_k12_whole_few_colours.Holds := by
  w_on; o_law; k_head; (case hw => w_witness2)
  k_fill
  first | refine LamX.walk_ofTs (l := PySem.Challenge.rw_paintyard_k12_whole_few_colours) (n := 63) (k := 6) (x := "_law_script") (CX := fun w => L2.CX PySem.Challenge.pw_paintyard_k12_whole_few_colours w) rfl (by decide) rfl ⟨rfl, by decide, by decide⟩ (fun w h Y => PySem.W.kIn_of Y) ?F (fun _ _ _ _ _ ⟨_, _, _, _, _, _, _, _, _, _, _, _, z⟩ => z) | refine LamX.walk_ofTs (l := PySem.Challenge.rw_paintyard_k12_whole_few_colours) (n := 63) (k := 6) (x := "_law_script") (CX := fun w => L2.CX PySem.Challenge.pw_paintyard_k12_whole_few_colours w) rfl (by decide) rfl ⟨rfl, by decide, by decide⟩ (fun w h Y => PySem.W.km_in_of Y) ?F (fun _ _ _ _ _ ⟨_, _, _, _, _, _, _, _, _, _, _, _, z⟩ => z)
  case F =>
    intro w mg fa h Y KX G hmg
    refine' Pm.lawAt ?tk0 (PySem.W.km_tabs_of Y) KX (Lw.all_ok (Lw.hd_mk KX G ?a0 ?l0 ?c0 ?k0 ?a1 ?l1 ?c1 ?k1 ?a2 ?l2 ?c2 ?k2 ?a3 ?l3 ?c3 ?k3 ?a4 ?l4 ?c4 ?k4 ?a5 ?l5 ?c5 ?k5 ?a6 ?l6 ?c6 ?k6 ?a7 ?l7 ?c7 ?k7 ?a8 ?l8 ?c8 ?k8 ?a9 ?l9 ?c9 ?k9 ?a10 ?l10 ?c10 ?k10 ?a11 ?l11 ?c11 ?k11 ?a12 ?l12 ?c12 ?k12 ?lc12 ?lt12 ?a13 ?l13 ?c13 ?k13 ?a14 ?l14 ?c14 ?k14 ?a15 ?l15 ?c15 ?k15 ?a16 ?l16 ?c16 ?k16 ?a17 ?l17 ?c17 ?k17 ?a18 ?l18 ?c18 ?k18 ?a19 ?l19 ?c19 ?k19 ?a20 ?l20 ?c20 ?k20 ?a21 ?l21 ?c21 ?k21 ?a22 ?l22 ?c22 ?k22 ?a23 ?l23 ?c23 ?k23 ?a24 ?l24 ?c24 ?k24 ?nd0 ?nt0 ?xa0 ?xe0 ?xk0 ?xs0 ?xt0 ?z0 ?z1 ?z2 ?z3 ?z4 ?z5 ?z6 ?z7 ?z8 ?z9 ?z10 ?z11 ?z12 ?z13 ?z14) hmg ?lt0)
    (case lt0 => exact Lw.law_true)
    (case a0 => k_is); (case l0 => k_is); (case c0 => k_is); (case k0 => k_is); (case a1 => k_is); (case l1 => k_is); (case c1 => k_is); (case k1 => k_is); (case a2 => k_is); (case l2 => k_is); (case c2 => k_is); (case k2 => k_is); (case a3 => k_is); (case l3 => k_is); (case c3 => k_is); (case k3 => k_is); (case a4 => k_is); (case l4 => k_is); (case c4 => k_is); (case k4 => k_is); (case a5 => k_is); (case l5 => k_is); (case c5 => k_is); (case k5 => k_is); (case a6 => k_is); (case l6 => k_is); (case c6 => k_is); (case k6 => k_is); (case a7 => k_is); (case l7 => k_is); (case c7 => k_is); (case k7 => k_is); (case a8 => k_is); (case l8 => k_is); (case c8 => k_is); (case k8 => k_is); (case a9 => k_is); (case l9 => k_is); (case c9 => k_is); (case k9 => k_is); (case a10 => k_is); (case l10 => k_is); (case c10 => k_is); (case k10 => k_is); (case a11 => k_is); (case l11 => k_is); (case c11 => k_is); (case k11 => k_is); (case a12 => k_is); (case l12 => k_is); (case c12 => k_is); (case k12 => k_is); (case lc12 => k_is); (case lt12 => exact rfl); (case a13 => k_is); (case l13 => k_is); (case c13 => k_is); (case k13 => k_is); (case a14 => k_is); (case l14 => k_is); (case c14 => k_is); (case k14 => k_is); (case a15 => k_is); (case l15 => k_is); (case c15 => k_is); (case k15 => k_is); (case a16 => k_is); (case l16 => k_is); (case c16 => k_is); (case k16 => k_is); (case a17 => k_is); (case l17 => k_is); (case c17 => k_is); (case k17 => k_is); (case a18 => k_is); (case l18 => k_is); (case c18 => k_is); (case k18 => k_is); (case a19 => k_is); (case l19 => k_is); (case c19 => k_is); (case k19 => k_is); (case a20 => k_is); (case l20 => k_is); (case c20 => k_is); (case k20 => k_is); (case a21 => k_is); (case l21 => k_is); (case c21 => k_is); (case k21 => k_is); (case a22 => k_is); (case l22 => k_is); (case c22 => k_is); (case k22 => k_is); (case a23 => k_is); (case l23 => k_is); (case c23 => k_is); (case k23 => k_is); (case a24 => k_is); (case l24 => k_is); (case c24 => k_is); (case k24 => k_is); (case nd0 => kernel_rfl); (case nt0 => kernel_rfl); (case xa0 => k_is); (case xe0 => k_exc); (case xk0 => k_is); (case xs0 => k_is); (case xt0 => k_is); (case z0 => k_is); (case z1 => k_is); (case z2 => k_is); (case z3 => k_is); (case z4 => k_is); (case z5 => k_is); (case z6 => k_is); (case z7 => k_is); (case z8 => k_is); (case z9 => k_is); (case z10 => k_is); (case z11 => k_is); (case z12 => k_is); (case z13 => k_is); (case z14 => k_is)
    (case tk0 => kernel_rfl)

