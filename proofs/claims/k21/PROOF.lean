import PyProof.Rows.All
import Wide.All
import OpenK.AllK
import Wide.FinOn
import HandS.ForMost
import HandS.Exc
import HandS.TryOnly
import HandS.ExcOwn
import HandS.WordsExc
import HandS.TupAny
import HandS.TupMul
import HandS.IsInst
import HandS.Conv
import HandS.Flow
import HandS.Style
import HandS.Deep
import HandS.Zip
import HandS.Defaults
import HandS.Lambda
import HandS.EndTab
import HandS.ExcIs
import PyProof.ListMulRoad
import KE.DataMinMax
import KE.DatumOrd
import KE.DataIsa
import HandS.Flt
import KE.DataAny
import PyProof.ExcBaseAll.ValueError
import KE.KDictZip
import KE.KDictItemsList
import HandS.Dict
import HandS.Small
import PyProof.DictUpdate
import HandS.SortInts
import KE.KRevSl
import HandS.TryMany
import HandS.Nested
import KE.KNestM
import HandS.MakeKwOnly
import HandS.CallSlots
import HandS.SetKeys
import HandS.More
import KE.SortData
import HandS.DictTup
import HandS.DictComp
import HandS.TupSets
import KE.KUnpackStar
import KE.KDictCopyH
import HandS.SetFor
import HandS.Strs
import PyProof.SumWalkG
import PyProof.WalksMore
import HandS.SetBool
import HandS.FStr
import KE.GoesRaise
import HandS.HotCalls
import KE.SortKeyHeap
import HandS.ExcValue
import HandS.ReplaceLit
import KE.KDictPairs
import KE.GoesMore
import PyProof.EnumMake
import KE.DataCmp
import HandS.SetTxt0
import HandS.Codes
import PyProof.Rows.StrStrike
import PySem.Challenge.RW_paintyard_k21_fonts_told
set_option Elab.async false
set_option linter.all false
set_option maxRecDepth 100000
set_option maxHeartbeats 1000000

namespace Pm
open PySem L2

structure LT where
  name : Str
  qual : Str
  params : Arguments
  body : FuncBody
  scope : Scope
  ps : List Str
  fr : List Str
inductive D where
  | non | bl (b : Bool) | int (i : Int) | str (x : Str)
  | tup (l : List D) | lst (l : List D) | scr (l : List Int)
  | dk (l : List (Key × D)) | dt (l : List (List Key × D))
  | town | fn (k : Nat) (T : LT) (env : List D) | obj (k : Nat)
  /-- an exception that a clause caught, by its class; a tuple that is known to have no attributes -/
  | exc (c : Str) | kt (l : List D)

inductive Sl where
  | no | va (d : D) | ow (d : D)

inductive Ob where
  | lst (l : List D) | ins (c : Str) (fs : List (Str × D)) | dct (es : List (Str × D))
structure W where
  town : Option (List Int)
  objs : List (Option Ob)
inductive Rs (α : Type) where
  | ok (a : α) (w : W) | ex (c : Str) (w : W) | bad
abbrev M (α : Type) := W → Rs α

structure Wa where
  town : Option Addr
  tabs : List Addr
  ob : List (Addr × Bool)
def Wa.lv (ws : Wa) (a : Addr) : Prop := (a, true) ∈ ws.ob
def Wa.has (ws : Wa) (a : Addr) : Prop := ws.town = some a ∨ a ∈ ws.tabs ∨ ws.lv a
structure Wa.le (ws ws' : Wa) : Prop where
  tw : ∀ a, ws.town = some a → ws'.town = some a
  ob : ∀ (k : Nat) (a : Addr) (b : Bool), ws.ob[k]? = some (a, b) → ∃ b', ws'.ob[k]? = some (a, b')
theorem Wa.le_refl (ws : Wa) : ws.le ws := ⟨fun _ h => h, fun _ _ b h => ⟨b, h⟩⟩
theorem Wa.le_trans {a b c : Wa} (h : a.le b) (h' : b.le c) : a.le c := ⟨fun x e => h'.tw x (h.tw x e), fun k x y e => let ⟨_, e1⟩ := h.ob k x y e; h'.ob k x _ e1⟩


def makers : List (Str × Str) := [("covered", "<lambda>"), ("stroked", "<lambda>"), ("placed", "<lambda>"), ("laid", "<lambda>"), ("middled", "<lambda>"), ("cut_box", "<lambda>"), ("convolved", "told")]
def codeTab (K : PySem.W.Frag) (x : Str) : Option (Addr × Addr) := match PySem.W.nsIn K mainGlobals x with
  | some (some (.ref f)) => (match K.lookup f with
    | some ⟨_, _, .func fd, _⟩ => (match fd.code with
      | .ref c => (match K.lookup c with
        | some ⟨_, _, .fields vs, _⟩ => (match (vs[11]? : Option Value) with
          | some (.ref P) => some (c, P)
          | _ => none)
        | _ => none)
      | _ => none)
    | _ => none)
  | _ => none
def innerName (x : Str × Str) : Str := (x.1 ++ ".<locals>.") ++ x.2
def tabsK (K : PySem.W.Frag) : List (Addr × Str) := makers.filterMap fun x => (codeTab K x.1).map fun p => (p.2, innerName x)
def TB (K : PySem.W.Frag) (ws : Wa) (H : Hp) : Prop := ws.tabs = (tabsK K).map (·.1) ∧ LamX.Tabs (tabsK K) H
def LamO (f : Addr) (T : LT) (cl : List (Str × Addr)) (c : Addr) : HO := .ext fun h => ∃ (od : Option Addr) (sl : Array (Option Value)) (doc pm ctv : Value),
  h.get? f = some (⟨.type "function", od, .func { name := T.name, qualname := T.qual, params := T.params, body := T.body, scope := T.scope, globals := mainGlobals, closure := cl, defaults := .none, kwdefaults := .none, doc := doc, pyModule := pm, annotations := none, code := .ref c, closureTuple := ctv, builtins := builtinsNs }, sl⟩ : Obj)
def AnyO (a : Addr) : HO := .ext fun h => ∃ o, h.get? a = some o
structure CellH (B : Addr → Prop) (H : Hp) (cl : List (Str × Addr)) (fr : List Str) (vs : List V) : Prop where
  len : vs.length = fr.length
  inj : ∀ x y c, cl.lookup x = some c → cl.lookup y = some c → x = y
  all : ∀ y c, cl.lookup y = some c → y ∈ fr
  has : ∀ (i : Nat) (y : Str), fr[i]? = some y → ∃ (c : Addr) (o : Obj) (u : Value), cl.lookup y = some c ∧ ¬ B c ∧ H c = some (.frz o (AnyO c)) ∧ o.data = .cell (some u) ∧ ∀ v, vs[i]? = some v → RelV v u

def KT (K : PySem.W.Frag) (a : Addr) (xs : List V) : Prop := ∃ (o : Obj) (its : Array Value) (n : Nat), K.lookup a = some o ∧ o.cls = .type "tuple" ∧ o.data = .seq its n ∧ its.size ≤ sizeLine ∧ Vals xs its.toList
def KL (K : PySem.W.Frag) (a : Addr) (xs : List V) : Prop := ∃ (o : Obj) (its : Array Value) (n : Nat), K.lookup a = some o ∧ o.cls = .type "list" ∧ o.dict = none ∧ o.data = .seq its n ∧ its.size ≤ sizeLine ∧ Vals xs its.toList
def clsK (K : PySem.W.Frag) (c : Str) : Addr := match PySem.W.nsIn K mainGlobals c with
  | some (some (.ref C)) => C
  | _ => 0
def ExcO (a C : Addr) : HO := .ext fun h => ∃ ox, PySem.W.InstAt h a ox C none
def kfl (K : PySem.W.Frag) : Bool := match PySem.W.nsIn K mainGlobals "_law_screen_holds", PySem.W.nsIn K mainGlobals "_law_wide", PySem.W.nsIn K mainGlobals "_law_row_holds" with
  | some (some _), _, _ => true
  | _, some (some _), _ => true
  | _, _, some (some _) => true
  | _, _, _ => false
def Tp (K : PySem.W.Frag) (B : Addr → Prop) (H : Hp) (a : Addr) (xs : List V) : Prop := (¬ B a ∧ H a = some (.tup xs)) ∨ KT K a xs ∨ (kfl K = true ∧ ¬ B a ∧ ∃ o, H a = some (.frz o (.tup xs)))

def Lp (K : PySem.W.Frag) (B : Addr → Prop) (H : Hp) (a : Addr) (xs : List V) : Prop := (¬ B a ∧ Rd H a (.lst xs)) ∨ KL K a xs

mutual
inductive DR (K : PySem.W.Frag) (ws : Wa) (B : Addr → Prop) (H : Hp) : V → D → Prop
  | non : DR K ws B H .non .non
  | bl (b : Bool) : DR K ws B H (.bl b) (.bl b)
  | int (i : Int) : DR K ws B H (.int i) (.int i)
  | str (x : Str) : DR K ws B H (.str x) (.str x)
  | tup {a : Addr} {vs : List V} {ds : List D} : ds.length ≤ sizeLine → Tp K B H a vs → DRs K ws B H vs ds → DR K ws B H (.ref a) (.tup ds)
  | lst {a : Addr} {vs : List V} {ds : List D} : ds.length ≤ sizeLine → ¬ B a → H a = some (.lst vs) → DRs K ws B H vs ds → DR K ws B H (.ref a) (.lst ds)
  | scr {a : Addr} (ns : List Int) : Lp K B H a (ns.map V.int) → DR K ws B H (.ref a) (.scr ns)
  | dk {a : Addr} {kvs : List (Key × V)} {es : List (Key × D)} : ¬ B a → H a = some (.dK kvs) → kvs.map (·.1) = es.map (·.1) → DRs K ws B H (kvs.map (·.2)) (es.map (·.2)) → DR K ws B H (.ref a) (.dk es)
  | dt {a : Addr} {kvs : List (List Key × V)} {es : List (List Key × D)} : ¬ B a → H a = some (.dT kvs) → kvs.map (·.1) = es.map (·.1) → DRs K ws B H (kvs.map (·.2)) (es.map (·.2)) → DR K ws B H (.ref a) (.dt es)
  | town {a : Addr} : ws.town = some a → DR K ws B H (.ref a) .town
  | obj {a : Addr} {k : Nat} {b : Bool} : ws.ob[k]? = some (a, b) → DR K ws B H (.ref a) (.obj k)
  | fn {f c : Addr} {cl : List (Str × Addr)} {k : Nat} {T : LT} {vs : List V} {ds : List D} : ¬ B f → H f = some (LamO f T cl c) → ¬ B c → H c = some (LamX.CodeO c T.qual) → CellH B H cl T.fr vs → DRs K ws B H vs ds → DR K ws B H (.ref f) (.fn k T ds)
  | exc {a : Addr} {c : Str} : ¬ B a → H a = some (ExcO a (clsK K c)) → DR K ws B H (.ref a) (.exc c)
  | kt {a : Addr} {o : Obj} {vs : List V} {ds : List D} : ds.length ≤ sizeLine → ¬ B a → H a = some (.frz o (.tup vs)) → o.dict = none → DRs K ws B H vs ds → DR K ws B H (.ref a) (.kt ds)
inductive DRs (K : PySem.W.Frag) (ws : Wa) (B : Addr → Prop) (H : Hp) : List V → List D → Prop
  | nil : DRs K ws B H [] []
  | cons {v : V} {vs : List V} {d : D} {ds : List D} : DR K ws B H v d → DRs K ws B H vs ds → DRs K ws B H (v :: vs) (d :: ds)
end

section
variable {K : PySem.W.Frag} {ws ws' : Wa} {B B' : Addr → Prop} {H H' : Hp}

theorem rd_keep {a : Addr} {u : HO} (hk : ∀ a o, H a = some o → ¬ B a → H' a = some o) (n : ¬ B a) (h : Rd H a u) : Rd H' a u := by
  rcases h with h | ⟨o, h⟩
  · exact .inl (hk a _ h n)
  · exact .inr ⟨o, hk a _ h n⟩
theorem rd_some {a : Addr} {u : HO} (h : Rd H a u) : H a ≠ none := by
  rcases h with h | ⟨o, h⟩ <;> rw [h] <;> exact fun e => by cases e
theorem nb_keep {a : Addr} (hb : ∀ a, B' a → B a ∨ H a = none) (n : ¬ B a) (h : H a ≠ none) : ¬ B' a := fun b => by
  rcases hb a b with z | z
  · exact n z
  · exact h z
theorem Tp.keep {a : Addr} {xs : List V} (hk : ∀ a o, H a = some o → ¬ B a → H' a = some o) (hb : ∀ a, B' a → B a ∨ H a = none) (h : Tp K B H a xs) : Tp K B' H' a xs := by
  rcases h with ⟨n, h⟩ | h | ⟨f, n, o, h⟩
  · exact .inl ⟨nb_keep hb n (by rw [h]; exact fun e => by cases e), hk a _ h n⟩
  · exact .inr (.inl h)
  · exact .inr (.inr ⟨f, nb_keep hb n (by rw [h]; exact fun e => by cases e), o, hk a _ h n⟩)
theorem Lp.keep {a : Addr} {xs : List V} (hk : ∀ a o, H a = some o → ¬ B a → H' a = some o) (hb : ∀ a, B' a → B a ∨ H a = none) (h : Lp K B H a xs) : Lp K B' H' a xs := by
  rcases h with ⟨n, h⟩ | h
  · exact .inl ⟨nb_keep hb n (rd_some h), rd_keep hk n h⟩
  · exact .inr h
theorem Lp.sq {a : Addr} {xs : List V} (h : Lp K B H a xs) : SqL K H a xs := by
  rcases h with ⟨_, h⟩ | h
  · exact .inl h
  · exact .inr h
theorem Tp.sq {a : Addr} {xs : List V} (h : Tp K B H a xs) : SqT K H a xs := by
  rcases h with ⟨_, h⟩ | h | ⟨_, _, o, h⟩
  · exact .inl (.inl h)
  · exact .inr h
  · exact .inl (.inr ⟨o, h⟩)
theorem sm {o : HO} {x : Option HO} (h : x = some o) : x ≠ none := by rw [h]; intro z; cases z
theorem CellH.keep {cl : List (Str × Addr)} {fr : List Str} {vs : List V} (hk : ∀ a o, H a = some o → ¬ B a → H' a = some o) (hb : ∀ a, B' a → B a ∨ H a = none) (h : CellH B H cl fr vs) : CellH B' H' cl fr vs :=
  ⟨h.len, h.inj, h.all, fun i y e => let ⟨c, o, u, h1, h2, h3, h4, h5⟩ := h.has i y e; ⟨c, o, u, h1, nb_keep hb h2 (sm h3), hk _ _ h3 h2, h4, h5⟩⟩

mutual
theorem DR.keep (hw : ws.le ws') (hk : ∀ a o, H a = some o → ¬ B a → H' a = some o) (hb : ∀ a, B' a → B a ∨ H a = none) : ∀ {v : V} {d : D}, DR K ws B H v d → DR K ws' B' H' v d
  | _, _, .non => .non
  | _, _, .bl b => .bl b
  | _, _, .int i => .int i
  | _, _, .str x => .str x
  | _, _, .tup z h r => .tup z (h.keep hk hb) (DRs.keep hw hk hb r)
  | _, _, .lst z n h r => .lst z (nb_keep hb n (sm h)) (hk _ _ h n) (DRs.keep hw hk hb r)
  | _, _, .scr ns h => .scr ns (h.keep hk hb)
  | _, _, .dk n h e r => .dk (nb_keep hb n (sm h)) (hk _ _ h n) e (DRs.keep hw hk hb r)
  | _, _, .dt n h e r => .dt (nb_keep hb n (sm h)) (hk _ _ h n) e (DRs.keep hw hk hb r)
  | _, _, .town h => .town (hw.tw _ h)
  | _, _, .obj h => let ⟨_, h⟩ := hw.ob _ _ _ h; .obj h
  | _, _, .fn n1 h1 n2 h2 hc r => .fn (nb_keep hb n1 (sm h1)) (hk _ _ h1 n1) (nb_keep hb n2 (sm h2)) (hk _ _ h2 n2) (hc.keep hk hb) (DRs.keep hw hk hb r)
  | _, _, .exc n h => .exc (nb_keep hb n (sm h)) (hk _ _ h n)
  | _, _, .kt z n h d r => .kt z (nb_keep hb n (sm h)) (hk _ _ h n) d (DRs.keep hw hk hb r)
theorem DRs.keep (hw : ws.le ws') (hk : ∀ a o, H a = some o → ¬ B a → H' a = some o) (hb : ∀ a, B' a → B a ∨ H a = none) : ∀ {vs : List V} {ds : List D}, DRs K ws B H vs ds → DRs K ws' B' H' vs ds
  | _, _, .nil => .nil
  | _, _, .cons h r => .cons (DR.keep hw hk hb h) (DRs.keep hw hk hb r)
end
theorem DRs.length : ∀ {vs : List V} {ds : List D}, DRs K ws B H vs ds → vs.length = ds.length
  | _, _, .nil => rfl
  | _, _, .cons _ r => congrArg (· + 1) (DRs.length r)
theorem DRs.get : ∀ {vs : List V} {ds : List D} {i : Nat} {d : D}, DRs K ws B H vs ds → ds[i]? = some d → ∃ v, vs[i]? = some v ∧ DR K ws B H v d
  | _, _, _, _, .nil, e => by simp at e
  | _, _, 0, _, .cons h _, e => by simp at e; subst e; exact ⟨_, rfl, h⟩
  | _, _, i + 1, d, .cons _ r, e => by
    obtain ⟨v, h1, h2⟩ := DRs.get (i := i) (d := d) r (by simpa using e)
    exact ⟨v, by simpa using h1, h2⟩
theorem DRs.append : ∀ {vs us : List V} {ds es : List D}, DRs K ws B H vs ds → DRs K ws B H us es → DRs K ws B H (vs ++ us) (ds ++ es)
  | _, _, _, _, .nil, s => s
  | _, _, _, _, .cons h r, s => .cons h (DRs.append r s)
theorem DRs.take : ∀ {vs : List V} {ds : List D} (n : Nat), DRs K ws B H vs ds → DRs K ws B H (vs.take n) (ds.take n)
  | _, _, 0, _ => .nil
  | _, _, _ + 1, .nil => .nil
  | _, _, n + 1, .cons h r => .cons h (DRs.take n r)
theorem DRs.drop : ∀ {vs : List V} {ds : List D} (n : Nat), DRs K ws B H vs ds → DRs K ws B H (vs.drop n) (ds.drop n)
  | _, _, 0, r => r
  | _, _, _ + 1, .nil => .nil
  | _, _, n + 1, .cons _ r => DRs.drop n r
theorem DRs.set {v : V} {d : D} (h : DR K ws B H v d) : ∀ {vs : List V} {ds : List D} (i : Nat), DRs K ws B H vs ds → DRs K ws B H (vs.set i v) (ds.set i d)
  | _, _, _, .nil => .nil
  | _, _, 0, .cons _ t => .cons h t
  | _, _, i + 1, .cons q t => .cons q (DRs.set h i t)
theorem DRs.reverse : ∀ {vs : List V} {ds : List D}, DRs K ws B H vs ds → DRs K ws B H vs.reverse ds.reverse
  | _, _, .nil => .nil
  | _, _, .cons h r => by simp only [List.reverse_cons]; exact (DRs.reverse r).append (.cons h .nil)
theorem DRs.one {v : V} {d : D} (h : DR K ws B H v d) : DRs K ws B H [v] [d] := .cons h .nil
theorem DRs.replicate {v : V} {d : D} (h : DR K ws B H v d) : ∀ n, DRs K ws B H (List.replicate n v) (List.replicate n d)
  | 0 => .nil
  | n + 1 => .cons h (DRs.replicate h n)
theorem DRs.ints : ∀ (ns : List Int), DRs K ws B H (ns.map V.int) (ns.map D.int)
  | [] => .nil
  | _ :: r => .cons (.int _) (DRs.ints r)
theorem DR.int_of {v : V} {i : Int} (h : DR K ws B H v (.int i)) : v = .int i := by cases h; rfl
theorem DRs.of_ints : ∀ {vs : List V} (ns : List Int), DRs K ws B H vs (ns.map D.int) → vs = ns.map V.int
  | _, [], h => by cases h; rfl
  | _, n :: r, h => by
    cases h with
    | cons h1 h2 => rw [h1.int_of, DRs.of_ints r h2]; rfl
theorem DRs.of_bls : ∀ {vs : List V} (ns : List Bool), DRs K ws B H vs (ns.map D.bl) → vs = ns.map V.bl
  | _, [], h => by cases h; rfl
  | _, n :: r, h => by
    cases h with
    | cons h1 h2 => cases h1; rw [DRs.of_bls r h2]; rfl
end

def DW (K : PySem.W.Frag) (ws : Wa) (B : Addr → Prop) (H : Hp) (v : V) : D → Prop
  | .non => v = .non
  | .bl b => v = .bl b
  | .int i => v = .int i
  | .str x => v = .str x
  | .tup ds => ds.length ≤ sizeLine ∧ ∃ a vs, v = .ref a ∧ Tp K B H a vs ∧ DRs K ws B H vs ds
  | .lst ds => ds.length ≤ sizeLine ∧ ∃ a vs, v = .ref a ∧ H a = some (.lst vs) ∧ DRs K ws B H vs ds
  | .scr ns => ∃ a, v = .ref a ∧ SqL K H a (ns.map V.int)
  | .dk es => ∃ a kvs, v = .ref a ∧ H a = some (.dK kvs) ∧ kvs.map (·.1) = es.map (·.1) ∧ DRs K ws B H (kvs.map (·.2)) (es.map (·.2))
  | .dt es => ∃ a kvs, v = .ref a ∧ H a = some (.dT kvs) ∧ kvs.map (·.1) = es.map (·.1) ∧ DRs K ws B H (kvs.map (·.2)) (es.map (·.2))
  | .town => False
  | .fn _ _ _ => False
  | .obj _ => False
  | .exc _ => False
  | .kt _ => False

def OO (K : PySem.W.Frag) (ws : Wa) (B : Addr → Prop) (H : Hp) (a : Addr) : D → Prop
  | .lst ds => ∃ vs, H a = some (.lst vs) ∧ ds.length ≤ sizeLine ∧ DRs K ws B H vs ds
  | .dk es => ∃ kvs, H a = some (.dK kvs) ∧ kvs.map (·.1) = es.map (·.1) ∧ DRs K ws B H (kvs.map (·.2)) (es.map (·.2))
  | .dt es => ∃ kvs, H a = some (.dT kvs) ∧ kvs.map (·.1) = es.map (·.1) ∧ DRs K ws B H (kvs.map (·.2)) (es.map (·.2))
  | _ => False

def Own (l : List Sl) (σ : L2.St) (a : Addr) : Prop := ∃ (i : Nat) (d : D), l[i]? = some (Sl.ow d) ∧ σ[i]? = some (some (V.ref a))
def Bad (ws : Wa) (B0 : Addr → Prop) (l : List Sl) (σ : L2.St) (a : Addr) : Prop := ws.has a ∨ B0 a ∨ Own l σ a
def TW (ws : Wa) (w : W) (H : Hp) : Prop := match w.town, ws.town with
  | none, none => True
  | some l, some t => H t = some (.lst (l.map V.int))
  | _, _ => False
mutual
inductive TR (K : PySem.W.Frag) (H : Hp) : V → D → Prop
  | non : TR K H .non .non
  | bl (b : Bool) : TR K H (.bl b) (.bl b)
  | int (i : Int) : TR K H (.int i) (.int i)
  | str (x : Str) : TR K H (.str x) (.str x)
  | tup {a : Addr} {vs : List V} {ds : List D} : ds.length ≤ sizeLine → (H a = some (.tup vs) ∨ KT K a vs) → TRs K H vs ds → TR K H (.ref a) (.tup ds)
inductive TRs (K : PySem.W.Frag) (H : Hp) : List V → List D → Prop
  | nil : TRs K H [] []
  | cons {v : V} {vs : List V} {d : D} {ds : List D} : TR K H v d → TRs K H vs ds → TRs K H (v :: vs) (d :: ds)
end
section
variable {K : PySem.W.Frag} {H H' : Hp}
mutual
theorem TR.keep (ht : ∀ a xs, H a = some (.tup xs) → H' a = some (.tup xs)) : ∀ {v : V} {d : D}, TR K H v d → TR K H' v d
  | _, _, .non => .non
  | _, _, .bl b => .bl b
  | _, _, .int i => .int i
  | _, _, .str x => .str x
  | _, _, .tup z h r => .tup z (h.imp (ht _ _) id) (TRs.keep ht r)
theorem TRs.keep (ht : ∀ a xs, H a = some (.tup xs) → H' a = some (.tup xs)) : ∀ {vs : List V} {ds : List D}, TRs K H vs ds → TRs K H' vs ds
  | _, _, .nil => .nil
  | _, _, .cons h r => .cons (TR.keep ht h) (TRs.keep ht r)
end
end
def FR (K : PySem.W.Frag) (ob : List (Addr × Bool)) (H : Hp) (v : V) (d : D) : Prop := TR K H v d ∨ ∃ k b c, d = .obj k ∧ ob[k]? = some (b, c) ∧ v = .ref b
abbrev FP (K : PySem.W.Frag) (ob : List (Addr × Bool)) (H : Hp) (x : Str × V) (y : Str × D) : Prop := x.1 = y.1 ∧ FR K ob H x.2 y.2
def kvsOf (fv : List (Str × V)) : List (Key × V) := fv.map fun p => (Sum.inr p.1, p.2)
def O1 (K : PySem.W.Frag) (ob : List (Addr × Bool)) (H : Hp) (a : Addr) : Ob → Prop
  | .lst ds => ∃ vs, H a = some (.lst vs) ∧ ds.length ≤ sizeLine ∧ TRs K H vs ds
  | .ins c fs => ∃ dx fv, H a = some (.ins (clsK K c) dx fv) ∧ fs.length ≤ 100 ∧ Paired (FP K ob H) fv fs
  | .dct fs => ∃ fv, H a = some (.dK (kvsOf fv)) ∧ fs.length ≤ 100 ∧ Paired (FP K ob H) fv fs
structure OB (K : PySem.W.Frag) (ws : Wa) (w : W) (H : Hp) : Prop where
  len : ws.ob.length = w.objs.length
  live : ∀ (k : Nat) (o : Ob), w.objs[k]? = some (some o) → ∃ a, ws.ob[k]? = some (a, true) ∧ O1 K ws.ob H a o
  dead : ∀ (k : Nat), w.objs[k]? = some none → ∃ a, ws.ob[k]? = some (a, false)
  nd : ∀ (j k : Nat) (a : Addr), ws.ob[j]? = some (a, true) → ws.ob[k]? = some (a, true) → j = k
  nt : ∀ a, ws.lv a → ws.town ≠ some a
structure WR (K : PySem.W.Frag) (ws : Wa) (w : W) (H : Hp) : Prop where
  tw : TW ws w H
  tb : TB K ws H
  ob : OB K ws w H
theorem O1.there {K : PySem.W.Frag} {ob : List (Addr × Bool)} {H : Hp} {a : Addr} {o : Ob} (h : O1 K ob H a o) : (∃ vs, H a = some (.lst vs)) ∨ (∃ C dx fv, H a = some (.ins C dx fv)) ∨ ∃ kv, H a = some (.dK kv) := by
  cases o with
  | lst ds => exact .inl ⟨_, h.choose_spec.1⟩
  | ins c fs => obtain ⟨dx, fv, h, _⟩ := h; exact .inr (.inl ⟨_, dx, fv, h⟩)
  | dct fs => obtain ⟨fv, h, _⟩ := h; exact .inr (.inr ⟨_, h⟩)
theorem OB.lv_at {K : PySem.W.Frag} {ws : Wa} {w : W} {H : Hp} {a : Addr} (h : OB K ws w H) (z : ws.lv a) : ∃ (k : Nat) (o : Ob), ws.ob[k]? = some (a, true) ∧ w.objs[k]? = some (some o) ∧ O1 K ws.ob H a o := by
  obtain ⟨k, hk⟩ := List.mem_iff_getElem?.mp z
  have hl : k < w.objs.length := by rw [← h.len]; exact (List.getElem?_eq_some_iff.mp hk).1
  cases q : w.objs[k] with
  | none =>
    obtain ⟨b, e⟩ := h.dead k (by rw [List.getElem?_eq_getElem hl, q])
    rw [hk] at e; cases e
  | some o =>
    have q' : w.objs[k]? = some (some o) := by rw [List.getElem?_eq_getElem hl, q]
    obtain ⟨b, e, r⟩ := h.live k o q'
    rw [hk] at e; cases e
    exact ⟨k, o, hk, q', r⟩
theorem OB.lv_lst {K : PySem.W.Frag} {ws : Wa} {w : W} {H : Hp} {a : Addr} (h : OB K ws w H) (z : ws.lv a) : (∃ vs, H a = some (.lst vs)) ∨ (∃ C dx fv, H a = some (.ins C dx fv)) ∨ ∃ kv, H a = some (.dK kv) := by
  obtain ⟨_, _, _, _, r⟩ := h.lv_at z
  exact r.there
theorem FR.keep {K : PySem.W.Frag} {ob : List (Addr × Bool)} {H H' : Hp} {v : V} {d : D} (ht : ∀ a xs, H a = some (.tup xs) → H' a = some (.tup xs)) (h : FR K ob H v d) : FR K ob H' v d := h.imp (TR.keep ht) id
theorem FR.mono {K : PySem.W.Frag} {ob ob' : List (Addr × Bool)} {H : Hp} {v : V} {d : D} (hm : ∀ (k : Nat) a b, ob[k]? = some (a, b) → ∃ b', ob'[k]? = some (a, b')) (h : FR K ob H v d) : FR K ob' H v d := by
  rcases h with h | ⟨k, b, c, rfl, h, rfl⟩
  · exact .inl h
  · obtain ⟨c', h'⟩ := hm k b c h
    exact .inr ⟨k, b, c', rfl, h', rfl⟩
theorem FPs.imp {K : PySem.W.Frag} {ob ob' : List (Addr × Bool)} {H H' : Hp} (f : ∀ v d, FR K ob H v d → FR K ob' H' v d) : ∀ {fv : List (Str × V)} {fs : List (Str × D)}, Paired (FP K ob H) fv fs → Paired (FP K ob' H') fv fs
  | _, _, .nil => .nil
  | _, _, .cons h r => .cons ⟨h.1, f _ _ h.2⟩ (FPs.imp f r)
theorem O1.keep {K : PySem.W.Frag} {ob : List (Addr × Bool)} {H H' : Hp} {a : Addr} {o : Ob} (ht : ∀ a xs, H a = some (.tup xs) → H' a = some (.tup xs)) (ha : ∀ u, H a = some u → H' a = some u) (h : O1 K ob H a o) : O1 K ob H' a o := by
  cases o with
  | lst ds => obtain ⟨vs, h1, h2, h3⟩ := h; exact ⟨vs, ha _ h1, h2, h3.keep ht⟩
  | ins c fs => obtain ⟨dx, fv, h1, h2, h3⟩ := h; exact ⟨dx, fv, ha _ h1, h2, FPs.imp (fun _ _ => FR.keep ht) h3⟩
  | dct fs => obtain ⟨fv, h1, h2, h3⟩ := h; exact ⟨fv, ha _ h1, h2, FPs.imp (fun _ _ => FR.keep ht) h3⟩
theorem O1.mono {K : PySem.W.Frag} {ob ob' : List (Addr × Bool)} {H : Hp} {a : Addr} {o : Ob} (hm : ∀ (k : Nat) a b, ob[k]? = some (a, b) → ∃ b', ob'[k]? = some (a, b')) (h : O1 K ob H a o) : O1 K ob' H a o := by
  cases o with
  | lst ds => exact h
  | ins c fs => obtain ⟨dx, fv, h1, h2, h3⟩ := h; exact ⟨dx, fv, h1, h2, FPs.imp (fun _ _ => FR.mono hm) h3⟩
  | dct fs => obtain ⟨fv, h1, h2, h3⟩ := h; exact ⟨fv, h1, h2, FPs.imp (fun _ _ => FR.mono hm) h3⟩
theorem OB.keep {K : PySem.W.Frag} {ws : Wa} {w : W} {H H' : Hp} (ht : ∀ a xs, H a = some (.tup xs) → H' a = some (.tup xs)) (hl : ∀ a o, H a = some o → ws.lv a → H' a = some o) (h : OB K ws w H) : OB K ws w H' :=
  ⟨h.len, fun k o e => let ⟨a, h1, h2⟩ := h.live k o e; ⟨a, h1, h2.keep ht fun u z => hl a u z (List.mem_iff_getElem?.mpr ⟨k, h1⟩)⟩, h.dead, h.nd, h.nt⟩

theorem OB.same {K : PySem.W.Frag} {ws : Wa} {w w' : W} {H : Hp} (e : w'.objs = w.objs) (h : OB K ws w H) : OB K ws w' H := ⟨by rw [e]; exact h.len, fun k o z => h.live k o (by rw [← e]; exact z), fun k z => h.dead k (by rw [← e]; exact z), h.nd, h.nt⟩
def BxO : Option HO → Prop
  | some (.ext _) => False
  | some (.tup _) => False
  | some (.frz _ (.tup _)) => False
  | _ => True
theorem BxO.nx {x : Option HO} (h : BxO x) : ∀ φ, x ≠ some (.ext φ) := fun φ e => by rw [e] at h; exact h
theorem BxO.nt {H : Hp} {a : Addr} {xs : List V} (h : BxO (H a)) : ¬ H a = some (.tup xs) := fun e => by
  rw [e] at h; exact h
def BX (ws : Wa) (B0 : Addr → Prop) (H : Hp) : Prop := ∀ a, B0 a → ¬ ws.has a ∧ BxO (H a)
theorem BX.keep {ws ws' : Wa} {B0 : Addr → Prop} {H H' : Hp} (b : BX ws B0 H) (d : ∀ a, B0 a → H a ≠ none) (n : ∀ a, ws'.has a → ws.has a ∨ H a = none) (k : ∀ a o, B0 a → H a = some o → H' a = some o) : BX ws' B0 H' := fun a h => by
  refine ⟨fun z => (n a z).elim (b a h).1 (d a h), ?_⟩
  cases q : H a with
  | none => exact absurd q (d a h)
  | some o =>
    rw [k a o h q, ← q]
    exact (b a h).2
theorem WR.wd {K : PySem.W.Frag} {ws : Wa} {w : W} {H : Hp} (h : WR K ws w H) : ∀ a, ws.has a → H a ≠ none := fun a z => by
  obtain ⟨h, ⟨hb1, hb2⟩, hg⟩ := h
  rcases z with z | z | z
  · unfold TW at h
    rw [z] at h
    cases q : w.town with
    | none => rw [q] at h; exact h.elim
    | some l => rw [q] at h; exact sm h
  · rw [hb1] at z
    obtain ⟨p, hp, rfl⟩ := List.mem_map.mp z
    obtain ⟨ps, h1, _⟩ := hb2 p hp
    exact sm h1
  · rcases hg.lv_lst z with ⟨vs, h1⟩ | ⟨_, _, _, h1⟩ | ⟨_, h1⟩ <;> exact sm h1
structure Env (K : PySem.W.Frag) (ws : Wa) (B0 : Addr → Prop) (sl : List Sl) (w : W) (σ : L2.St) (H : Hp) : Prop where
  len : sl.length = σ.length
  wr : WR K ws w H
  bx : BX ws B0 H
  dom : ∀ a, B0 a → H a ≠ none
  va : ∀ (i : Nat) (d : D), sl[i]? = some (Sl.va d) → ∃ v, σ[i]? = some (some v) ∧ DR K ws (Bad ws B0 sl σ) H v d
  ow : ∀ (i : Nat) (d : D), sl[i]? = some (Sl.ow d) → ∃ a, σ[i]? = some (some (V.ref a)) ∧ OO K ws (Bad ws B0 sl σ) H a d ∧ ¬ ws.has a ∧ ¬ B0 a
  uq : ∀ (i j : Nat) (d e : D) (a : Addr), sl[i]? = some (Sl.ow d) → sl[j]? = some (Sl.ow e) → σ[i]? = some (some (V.ref a)) → σ[j]? = some (some (V.ref a)) → i = j

theorem Env.wd {K : PySem.W.Frag} {ws : Wa} {B0 : Addr → Prop} {sl : List Sl} {w : W} {σ : L2.St} {H : Hp} (e : Env K ws B0 sl w σ H) : ∀ a, ws.has a → H a ≠ none := e.wr.wd
structure Le (ws : Wa) (O : Addr → Prop) (H : Hp) (ws' : Wa) (O' : Addr → Prop) (H' : Hp) : Prop where
  wle : ws.le ws'
  new : ∀ a, ws'.has a → ws.has a ∨ H a = none
  own : ∀ a, O' a → O a ∨ H a = none
  keep : ∀ a o, H a = some o → ¬ ws.has a → ¬ O a → H' a = some o
  ex : ∀ a, H' a = none → H a = none

section
variable {K : PySem.W.Frag} {ws ws' ws'' : Wa} {B0 : Addr → Prop} {w w' : W} {sl sl' : List Sl} {σ σ' : L2.St} {H H' H'' : Hp} {v : V} {d : D}

theorem Le.refl (ws : Wa) (O : Addr → Prop) (H : Hp) : Le ws O H ws O H := ⟨ws.le_refl, fun _ h => .inl h, fun _ h => .inl h, fun _ _ h _ _ => h, fun _ h => h⟩
theorem Le.trans {O O' O'' : Addr → Prop} (a : Le ws O H ws' O' H') (b : Le ws' O' H' ws'' O'' H'') : Le ws O H ws'' O'' H'' where
  wle := Wa.le_trans a.wle b.wle
  new := fun x h => by
    rcases b.new x h with z | z
    · exact a.new x z
    · exact .inr (a.ex x z)
  own := fun x h => by
    rcases b.own x h with z | z
    · exact a.own x z
    · exact .inr (a.ex x z)
  keep := fun x o e w u => by
    have h1 := a.keep x o e w u
    exact b.keep x o h1 (fun z => by
      rcases a.new x z with q | q
      · exact w q
      · rw [e] at q; cases q) (fun z => by
      rcases a.own x z with q | q
      · exact u q
      · rw [e] at q; cases q)
  ex := fun x h => a.ex x (b.ex x h)

theorem Le.bad (l : Le ws (Own sl σ) H ws' (Own sl' σ') H') : ∀ a, Bad ws' B0 sl' σ' a → Bad ws B0 sl σ a ∨ H a = none := fun a h => by
  rcases h with h | h | h
  · exact (l.new a h).imp .inl id
  · exact .inl (.inr (.inl h))
  · exact (l.own a h).imp (fun z => .inr (.inr z)) id
theorem Le.kp (l : Le ws (Own sl σ) H ws' (Own sl' σ') H') : ∀ a o, H a = some o → ¬ Bad ws B0 sl σ a → H' a = some o := fun a o e n =>
  l.keep a o e (fun z => n (.inl z)) (fun z => n (.inr (.inr z)))
theorem DR.le (l : Le ws (Own sl σ) H ws' (Own sl' σ') H') (h : DR K ws (Bad ws B0 sl σ) H v d) : DR K ws' (Bad ws' B0 sl' σ') H' v d := h.keep l.wle l.kp l.bad
theorem DRs.le {vs : List V} {ds : List D} (l : Le ws (Own sl σ) H ws' (Own sl' σ') H') (h : DRs K ws (Bad ws B0 sl σ) H vs ds) : DRs K ws' (Bad ws' B0 sl' σ') H' vs ds := h.keep l.wle l.kp l.bad
def Grow (H H' : Hp) : Prop := ∀ a o, H a = some o → H' a = some o
theorem Grow.refl (H : Hp) : Grow H H := fun _ _ h => h
theorem Grow.trans (a : Grow H H') (b : Grow H' H'') : Grow H H'' := fun x o h => b x o (a x o h)
theorem Grow.new {p : Addr} {o : HO} (h : H p = none) : Grow H (upd H p o) := fun a u e => by rw [upd_ne (ne_of_none e h)]; exact e
theorem Grow.ex (g : Grow H H') : ∀ a, H' a = none → H a = none := fun a h => by
  cases e : H a with
  | none => rfl
  | some o => rw [g a o e] at h; cases h
theorem Grow.le (g : Grow H H') (ws : Wa) (O : Addr → Prop) : Le ws O H ws O H' := ⟨ws.le_refl, fun _ h => .inl h, fun _ h => .inl h, fun a o e _ _ => g a o e, g.ex⟩
theorem DR.grow {B : Addr → Prop} (g : Grow H H') (h : DR K ws B H v d) : DR K ws B H' v d := h.keep ws.le_refl (fun a o e _ => g a o e) fun _ z => .inl z
theorem DRs.grow {B : Addr → Prop} {vs : List V} {ds : List D} (g : Grow H H') (h : DRs K ws B H vs ds) : DRs K ws B H' vs ds := h.keep ws.le_refl (fun a o e _ => g a o e) fun _ z => .inl z
theorem OO.grow {B : Addr → Prop} {a : Addr} (g : Grow H H') (h : OO K ws B H a d) : OO K ws B H' a d := by
  cases d <;> first
    | exact h
    | (obtain ⟨vs, e, q, r⟩ := h; exact ⟨vs, g _ _ e, q, r.grow g⟩)
theorem TW.grow {w : W} (g : Grow H H') (h : TW ws w H) : TW ws w H' := by
  unfold TW at *
  split at h
  · trivial
  · exact g _ _ h
  · exact h
theorem tabs_keep {T : List (Addr × Str)} (hk : ∀ p ∈ T, ∀ ps, H p.1 = some (.tbl ps) → H' p.1 = some (.tbl ps)) (hc : ∀ c q, H c = some (LamX.CodeO c q) → H' c = some (LamX.CodeO c q)) (h : LamX.Tabs T H) : LamX.Tabs T H' := fun p hp => by
  obtain ⟨ps, h1, h2, h3⟩ := h p hp
  exact ⟨ps, hk p hp ps h1, h2, fun pos cv e => let ⟨c, e1, e2⟩ := h3 pos cv e; ⟨c, e1, hc _ _ e2⟩⟩
theorem TB.keep (hk : ∀ a o, H a = some o → ws.has a → H' a = some o) (hc : ∀ a φ, H a = some (.ext φ) → H' a = some (.ext φ)) (h : TB K ws H) : TB K ws H' :=
  ⟨h.1, tabs_keep (fun p hp ps e => hk _ _ e (.inr (.inl (by rw [h.1]; exact List.mem_map.mpr ⟨p, hp, rfl⟩)))) (fun c q e => hc _ _ e) h.2⟩
theorem TB.grow (g : Grow H H') (h : TB K ws H) : TB K ws H' := h.keep (fun a o e _ => g a o e) fun a φ e => g a _ e
theorem TB.upd {a : Addr} {o : HO} (hn : ¬ ws.has a) (hx : ∀ φ, H a ≠ some (.ext φ)) (h : TB K ws H) : TB K ws (upd H a o) :=
  h.keep (fun b u e z => by rw [upd_ne (fun q => hn (by rw [← q]; exact z))]; exact e) fun b φ e => by rw [upd_ne (fun q => hx φ (by rw [← q]; exact e))]; exact e
theorem TB.same {t t' : Option Addr} {l : List Addr} {b b' : List (Addr × Bool)} (h : TB K ⟨t, l, b⟩ H) : TB K ⟨t', l, b'⟩ H := h
theorem OB.grow {w : W} (g : Grow H H') (h : OB K ws w H) : OB K ws w H' := h.keep (fun _ _ z => g _ _ z) fun a o z _ => g a o z
theorem rd_upd {a b : Addr} {o : HO} {xs : List V} (hx : BxO (H a)) (h : H b = some (.tup xs)) : upd H a o b = some (.tup xs) := by
  have n : b ≠ a := fun z => by subst z; exact hx.nt h
  rw [upd_ne n]; exact h
theorem OB.upd {w : W} {a : Addr} {o : HO} (hn : ¬ ws.has a) (hx : BxO (H a)) (h : OB K ws w H) : OB K ws w (upd H a o) :=
  h.keep (fun _ _ z => rd_upd hx z) fun b u z l => by rw [upd_ne (fun q => hn (by rw [← q]; exact .inr (.inr l)))]; exact z
theorem WR.grow {w : W} (g : Grow H H') (h : WR K ws w H) : WR K ws w H' := ⟨h.1.grow g, h.2.grow g, h.3.grow g⟩
theorem TW.upd {w : W} {a : Addr} {o : HO} (hn : ¬ ws.has a) (hw : TW ws w H) : TW ws w (upd H a o) := by
  unfold TW at hw ⊢
  split
  · trivial
  · rename_i l t e1 e2
    rw [e1, e2] at hw
    rw [upd_ne (fun z => hn (.inl (by rw [← z]; exact e2)))]
    exact hw
  · rename_i h1 h2
    split at hw
    · rename_i e1 e2; exact h1 e1 e2
    · rename_i e1 e2; exact h2 _ _ e1 e2
    · exact hw
theorem WR.upd {w : W} {a : Addr} {o : HO} (hn : ¬ ws.has a) (hx : BxO (H a)) (h : WR K ws w H) : WR K ws w (upd H a o) := ⟨h.1.upd hn, h.2.upd hn hx.nx, h.3.upd hn hx⟩
theorem OO.nx {B : Addr → Prop} {a : Addr} (h : OO K ws B H a d) : BxO (H a) := by
  cases d <;> first
    | exact h.elim
    | (obtain ⟨vs, q, _⟩ := h; rw [q]; trivial)
theorem Env.grow (g : Grow H H') (e : Env K ws B0 sl w σ H) : Env K ws B0 sl w σ H' where
  len := e.len
  wr := e.wr.grow g
  bx := e.bx.keep e.dom (fun _ z => .inl z) fun a o _ z => g a o z
  dom := fun a h z => e.dom a h (g.ex a z)
  va := fun i d h => let ⟨v, h1, h2⟩ := e.va i d h; ⟨v, h1, h2.grow g⟩
  ow := fun i d h => let ⟨a, h1, h2, h3⟩ := e.ow i d h; ⟨a, h1, h2.grow g, h3⟩
  uq := e.uq
theorem OO.there {B : Addr → Prop} {a : Addr} (h : OO K ws B H a d) : H a ≠ none := by
  cases d <;> first
    | exact h.elim
    | (obtain ⟨vs, e, _⟩ := h; rw [e]; intro z; cases z)
theorem Env.bad (e : Env K ws B0 sl w σ H) : ∀ a, Bad ws B0 sl σ a → H a ≠ none := fun a h => by
  rcases h with h | h | ⟨i, d, h1, h2⟩
  · exact e.wd a h
  · exact e.dom a h
  · obtain ⟨b, q1, q2, _⟩ := e.ow i d h1
    rw [h2] at q1
    cases q1
    exact q2.there
theorem Env.fresh (e : Env K ws B0 sl w σ H) {p : Addr} (h : H p = none) : ¬ Bad ws B0 sl σ p := fun b => e.bad p b h

theorem DR.dw {B : Addr → Prop} (h : DR K ws B H v d) (ht : d ≠ .town) (hf : ∀ k T l, d ≠ .fn k T l) (ho : ∀ k, d ≠ .obj k) (hx : ∀ c, d ≠ .exc c) (hk : ∀ l, d ≠ .kt l) : DW K ws B H v d := by
  cases h with
  | non => rfl
  | bl b => rfl
  | int i => rfl
  | str x => rfl
  | tup z h r => exact ⟨z, _, _, rfl, h, r⟩
  | lst z n h r => exact ⟨z, _, _, rfl, h, r⟩
  | scr ns h => exact ⟨_, rfl, h.sq⟩
  | dk n h e r => exact ⟨_, _, rfl, h, e, r⟩
  | dt n h e r => exact ⟨_, _, rfl, h, e, r⟩
  | town h => exact absurd rfl ht
  | obj h => exact absurd rfl (ho _)
  | fn _ _ _ _ _ _ => exact absurd rfl (hf _ _ _)
  | exc _ _ => exact absurd rfl (hx _)
  | kt _ _ _ _ _ => exact absurd rfl (hk _)
theorem get_set {α : Type} {l : List α} {i j : Nat} {x y : α} (h : (l.set i x)[j]? = some y) : (j = i ∧ y = x ∧ i < l.length) ∨ (j ≠ i ∧ l[j]? = some y) := by
  by_cases e : j = i
  · subst e
    by_cases q : j < l.length
    · rw [List.getElem?_set_self q] at h
      exact .inl ⟨rfl, (Option.some.inj h).symm, q⟩
    · rw [List.getElem?_eq_none (by simpa using q)] at h
      cases h
  · rw [List.getElem?_set_ne (Ne.symm e)] at h
    exact .inr ⟨e, h⟩

end
end Pm
namespace Pm
open PySem L2


def M.pure {α : Type} (a : α) : M α := fun w => .ok a w
def M.bind {α β : Type} (m : M α) (k : α → M β) : M β := fun w => match m w with
  | .ok a w' => k a w'
  | .ex c w' => .ex c w'
  | .bad => .bad
def M.bad {α : Type} : M α := fun _ => .bad
def M.raise {α : Type} (c : Str) : M α := fun w => .ex c w
def M.opt {α : Type} (o : Option α) : M α := match o with
  | some a => M.pure a
  | none => M.bad
section
variable {α β γ : Type}
@[simp] theorem pure_bind (a : α) (k : α → M β) : M.bind (M.pure a) k = k a := rfl
@[simp] theorem bad_bind (k : α → M β) : M.bind (M.bad : M α) k = M.bad := rfl
@[simp] theorem raise_bind (c : Str) (k : α → M β) : M.bind (M.raise c : M α) k = M.raise c := rfl
@[simp] theorem opt_some (a : α) : M.opt (some a) = M.pure a := rfl
@[simp] theorem opt_none : M.opt (none : Option α) = M.bad := rfl
@[simp] theorem bind_assoc (m : M α) (k : α → M β) (g : β → M γ) : M.bind (M.bind m k) g = M.bind m fun a => M.bind (k a) g := by
  funext w
  show (match (match m w with | .ok a w' => k a w' | .ex c w' => .ex c w' | .bad => .bad) with | .ok a w' => g a w' | .ex c w' => .ex c w' | .bad => .bad) = match m w with | .ok a w' => M.bind (k a) g w' | .ex c w' => .ex c w' | .bad => .bad
  cases m w <;> rfl
@[simp] theorem bind_pure (m : M α) : M.bind m M.pure = m := by
  funext w
  show (match m w with | .ok a w' => .ok a w' | .ex c w' => .ex c w' | .bad => .bad) = m w
  cases m w <;> rfl
end
abbrev Ls := List Sl
abbrev Dn := Ls → M D
abbrev Bn := Ls → M Bool
abbrev An := Ls → M (List D)

section
variable (K : PySem.W.Frag) (mg : Str → Option Value) (Wx : WX) (ws : Wa) (B0 : Addr → Prop) (sl : Ls) (σ : L2.St) (H : Hp)
def runAt {α : Type} (r : Rs α) (k : Wa → W → α → Hp → Prop) : Prop := match r with
  | .ok a w' => ∀ ws' H', Le ws (Own sl σ) H ws' (Own sl σ) H' → Env K ws' B0 sl w' σ H' → k ws' w' a H'
  | .ex c w' => ∀ ws' H' C, mg c = some (.ref C) → Le ws (Own sl σ) H ws' (Own sl σ) H' → Env K ws' B0 sl w' σ H' → Wx (.ref C) none σ H'
  | .bad => False
def RV (v : V) (d : D) : Prop := (∃ i : Nat, sl[i]? = some (.ow d) ∧ σ[i]? = some (some v)) ∨ DR K ws (Bad ws B0 sl σ) H v d
def RVs : List V → List D → Prop := Paired (RV K ws B0 sl σ H)
end
def rdb : D → Bool
  | .town => false
  | .fn _ _ _ => false
  | .obj _ => false
  | .exc _ => false
  | .kt _ => false
  | _ => true
section
variable {K : PySem.W.Frag} {mg : Str → Option Value} {Wx : WX} {ws ws' : Wa} {B0 : Addr → Prop} {sl : Ls} {w w' : W} {σ : L2.St} {H H' : Hp} {α β : Type} {r : Rs α} {k k' : Wa → W → α → Hp → Prop} {v : V} {d : D}
theorem RV.le (l : Le ws (Own sl σ) H ws' (Own sl σ) H') (h : RV K ws B0 sl σ H v d) : RV K ws' B0 sl σ H' v d := by
  rcases h with h | h
  · exact .inl h
  · exact .inr (h.le l)
theorem RVs.le (l : Le ws (Own sl σ) H ws' (Own sl σ) H') : ∀ {vs : List V} {ds : List D}, RVs K ws B0 sl σ H vs ds → RVs K ws' B0 sl σ H' vs ds
  | _, _, .nil => .nil
  | _, _, .cons h r => .cons (RV.le l h) (RVs.le l r)
theorem RV.of (h : DR K ws (Bad ws B0 sl σ) H v d) : RV K ws B0 sl σ H v d := .inr h
theorem RVs.of : ∀ {vs : List V} {ds : List D}, DRs K ws (Bad ws B0 sl σ) H vs ds → RVs K ws B0 sl σ H vs ds
  | _, _, .nil => .nil
  | _, _, .cons h r => .cons (.inr h) (RVs.of r)
theorem Env.rv (e : Env K ws B0 sl w σ H) (h : RV K ws B0 sl σ H v d) (hd : rdb d = true) : DW K ws (Bad ws B0 sl σ) H v d := by
  rcases h with ⟨i, h1, h2⟩ | h
  · obtain ⟨a, q1, q2, _⟩ := e.ow i d h1
    rw [h2] at q1
    cases q1
    cases d <;> first
      | exact q2.elim
      | (obtain ⟨vs, p1, p0, p2⟩ := q2; exact ⟨p0, a, vs, rfl, p1, p2⟩)
      | (obtain ⟨vs, p1, p2, p3⟩ := q2; exact ⟨a, vs, rfl, p1, p2, p3⟩)
  · exact h.dw (fun z => by subst z; cases hd) (fun _ _ _ z => by subst z; cases hd) (fun _ z => by subst z; cases hd) (fun _ z => by subst z; cases hd) (fun _ z => by subst z; cases hd)
theorem runAt.mono (h : runAt K mg Wx ws B0 sl σ H r k) (f : ∀ ws' w' a H', Le ws (Own sl σ) H ws' (Own sl σ) H' → Env K ws' B0 sl w' σ H' → k ws' w' a H' → k' ws' w' a H') : runAt K mg Wx ws B0 sl σ H r k' := by
  cases r with
  | ok a s' => exact fun ws' H' l e => f ws' s' a H' l e (h ws' H' l e)
  | ex c s' => exact h
  | bad => exact h
theorem runAt.le {ws1 : Wa} {H1 : Hp} (l : Le ws (Own sl σ) H ws1 (Own sl σ) H1) (h : runAt K mg Wx ws B0 sl σ H r k) : runAt K mg Wx ws1 B0 sl σ H1 r k := by
  cases r with
  | ok a s' => exact fun ws' H' l' e => h ws' H' (l.trans l') e
  | ex c s' => exact fun ws' H' C hc l' e => h ws' H' C hc (l.trans l') e
  | bad => exact h
theorem runAt.bind {m : M α} {g : α → M β} {k : Wa → W → β → Hp → Prop} (h : runAt K mg Wx ws B0 sl σ H (M.bind m g w) k) :
    runAt K mg Wx ws B0 sl σ H (m w) (fun ws' w' a H' => runAt K mg Wx ws' B0 sl σ H' (g a w') k) := by
  unfold M.bind at h
  cases q : m w with
  | ok a s1 => rw [q] at h; exact fun ws1 H1 l1 e1 => runAt.le l1 h
  | ex c s' => rw [q] at h; exact h
  | bad => rw [q] at h; exact h
theorem runAt.here {a : α} (e : Env K ws B0 sl w σ H) (h : runAt K mg Wx ws B0 sl σ H (.ok a w) k) : k ws w a H := h ws H (Le.refl _ _ _) e
theorem runAt.grow {a : α} {H' : Hp} (g : Grow H H') (e : Env K ws B0 sl w σ H) (h : runAt K mg Wx ws B0 sl σ H (.ok a w) k) : k ws w a H' := h ws H' (g.le _ _) (e.grow g)
theorem runAt.opt {o : Option α} (h : runAt K mg Wx ws B0 sl σ H (M.opt o w) k) : ∃ a, o = some a ∧ runAt K mg Wx ws B0 sl σ H (.ok a w) k := by
  cases o with
  | none => exact h.elim
  | some a => exact ⟨a, rfl, h⟩
end

def tE (K : PySem.W.Frag) (mg : Str → Option Value) (Wx : WX) (f : Dn) : TE := fun σ H Q => ∃ ws B0 sl w, Env K ws B0 sl w σ H ∧ runAt K mg Wx ws B0 sl σ H (f sl w) fun ws' _ d H' => ∀ v, DR K ws' (Bad ws' B0 sl σ) H' v d → Q v H'
def tR (K : PySem.W.Frag) (mg : Str → Option Value) (Wx : WX) (f : Dn) : TE := fun σ H Q => ∃ ws B0 sl w, Env K ws B0 sl w σ H ∧ runAt K mg Wx ws B0 sl σ H (f sl w) fun ws' _ d H' => ∀ v, RV K ws' B0 sl σ H' v d → Q v H'
def tT (K : PySem.W.Frag) (mg : Str → Option Value) (Wx : WX) (f : Bn) : TT := fun σ H Q => ∃ ws B0 sl w, Env K ws B0 sl w σ H ∧ runAt K mg Wx ws B0 sl σ H (f sl w) fun _ _ b H' => Q b H'
def tA (K : PySem.W.Frag) (mg : Str → Option Value) (Wx : WX) (f : An) : TA := fun σ H Q => ∃ ws B0 sl w, Env K ws B0 sl w σ H ∧ runAt K mg Wx ws B0 sl σ H (f sl w) fun ws' _ ds H' => ∀ vs, DRs K ws' (Bad ws' B0 sl σ) H' vs ds → Q vs H'
def tAr (K : PySem.W.Frag) (mg : Str → Option Value) (Wx : WX) (f : An) : TA := fun σ H Q => ∃ ws B0 sl w, Env K ws B0 sl w σ H ∧ runAt K mg Wx ws B0 sl σ H (f sl w) fun ws' _ ds H' => ∀ vs, RVs K ws' B0 sl σ H' vs ds → Q vs H'

abbrev PEm (X : Cx) (Wx : WX) (e : Expr) (f : Dn) : Prop := PE X e (tE X.K X.mg Wx f)
abbrev PRm (X : Cx) (Wx : WX) (e : Expr) (f : Dn) : Prop := PE X e (tR X.K X.mg Wx f)
abbrev PTm (X : Cx) (Wx : WX) (e : Expr) (f : Bn) : Prop := PT X e (tT X.K X.mg Wx f)
abbrev PAm (X : Cx) (Wx : WX) (es : List Expr) (f : An) : Prop := PA X es (tA X.K X.mg Wx f)
abbrev PArm (X : Cx) (Wx : WX) (es : List Expr) (f : An) : Prop := PA X es (tAr X.K X.mg Wx f)

theorem _root_.L2.PE.mimp {X : Cx} {e : Expr} {t t' : TE} (h : PE X e t) (f : ∀ σ H Q, t' σ H Q → t σ H Q) : PE X e t' := ⟨fun pins s σ H Q I q => h.run pins s σ H Q I (f _ _ _ q)⟩
theorem _root_.L2.PT.mimp {X : Cx} {e : Expr} {t t' : TT} (h : PT X e t) (f : ∀ σ H Q, t' σ H Q → t σ H Q) : PT X e t' := ⟨fun pins s σ H Q I q => h.run pins s σ H Q I (f _ _ _ q)⟩
theorem _root_.L2.PA.mimp {X : Cx} {e : List Expr} {t t' : TA} (h : PA X e t) (f : ∀ σ H Q, t' σ H Q → t σ H Q) : PA X e t' := ⟨fun pos pins s σ H Q I q => h.run pos pins s σ H Q I (f _ _ _ q)⟩
theorem _root_.L2.PS.mimp {X : Cx} {e : Stmt} {t t' : TS} (h : PS X e t) (f : ∀ D σ H, t' D σ H → t D σ H) : PS X e t' := ⟨fun pins s σ H D I q => h.run pins s σ H D I (f _ _ _ q)⟩
theorem _root_.L2.PSs.mimp {X : Cx} {e : List Stmt} {t t' : TS} (h : PSs X e t) (f : ∀ D σ H, t' D σ H → t D σ H) : PSs X e t' := ⟨fun pins s σ H D I q => h.run pins s σ H D I (f _ _ _ q)⟩


def nVar (i : Nat) : Dn := fun sl => match sl[i]? with
  | some (.va d) => M.pure d
  | _ => M.bad
def nRd (i : Nat) : Dn := fun sl => match sl[i]? with
  | some (.va d) => M.pure d
  | some (.ow d) => M.pure d
  | _ => M.bad
section
variable {X : Cx} {Wx : WX} {e : Expr} {f : Dn}
theorem r_of (h : PEm X Wx e f) : PRm X Wx e f := h.mimp fun σ H Q ⟨ws, B0, sl, w, e, h⟩ => ⟨ws, B0, sl, w, e, h.mono fun ws1 w1 d H1 l1 e1 h1 v hv => h1 v (.inr hv)⟩
theorem m_var (i : Nat) {x : Str} {pos : Pos} (hN : X.N[i]? = some x := by rfl) (hv : Vis X.env.scope x := by first | exact Or.inl rfl | exact Or.inr (Or.inl rfl) | exact Or.inr (Or.inr rfl)) (hd : (x == ("__debug__" : Str)) = false := by decide)
    (hcd : (x == ("__classdict__" : Str)) = false := by decide) : PEm X Wx (.Name x pos) (nVar i) := by
  refine (pe_var hN hv hd hcd).mimp fun σ H Q ⟨ws, B0, sl, w, e, h⟩ => ?_
  unfold nVar at h
  cases q : sl[i]? with
  | none => rw [q] at h; exact h.elim
  | some z =>
    rw [q] at h
    cases z with
    | no => exact h.elim
    | ow d => exact h.elim
    | va d =>
      obtain ⟨v, h1, h2⟩ := e.va i d q
      exact ⟨v, h1, runAt.here e h v h2⟩
theorem r_var (i : Nat) {x : Str} {pos : Pos} (hN : X.N[i]? = some x := by rfl) (hv : Vis X.env.scope x := by first | exact Or.inl rfl | exact Or.inr (Or.inl rfl) | exact Or.inr (Or.inr rfl)) (hd : (x == ("__debug__" : Str)) = false := by decide)
    (hcd : (x == ("__classdict__" : Str)) = false := by decide) : PRm X Wx (.Name x pos) (nRd i) := by
  refine (pe_var hN hv hd hcd).mimp fun σ H Q ⟨ws, B0, sl, w, e, h⟩ => ?_
  unfold nRd at h
  cases q : sl[i]? with
  | none => rw [q] at h; exact h.elim
  | some z =>
    rw [q] at h
    cases z with
    | no => exact h.elim
    | va d =>
      obtain ⟨v, h1, h2⟩ := e.va i d q
      exact ⟨v, h1, runAt.here e h v (.inr h2)⟩
    | ow d =>
      obtain ⟨a, h1, h2, _⟩ := e.ow i d q
      exact ⟨_, h1, runAt.here e h _ (.inl ⟨i, q, h1⟩)⟩
theorem m_c {e : Expr} {v : V} {d : D} (h : PE X e (tC v)) (hd : ∀ ws B H, DR X.K ws B H v d) : PEm X Wx e (fun _ => M.pure d) :=
  h.mimp fun σ H Q ⟨ws, B0, sl, w, e, h⟩ => runAt.here e h v (hd _ _ _)
theorem m_int {i j pos} : PEm X Wx (.Constant (.int i) j pos) (fun _ => M.pure (.int i)) := m_c pe_int fun _ _ _ => .int i
theorem m_bl {b j pos} : PEm X Wx (.Constant (.bool b) j pos) (fun _ => M.pure (.bl b)) := m_c pe_bl fun _ _ _ => .bl b
theorem m_non {j pos} : PEm X Wx (.Constant .none j pos) (fun _ => M.pure .non) := m_c pe_non fun _ _ _ => .non
theorem m_str {x j pos} : PEm X Wx (.Constant (.str x) j pos) (fun _ => M.pure (.str x)) := m_c pe_str fun _ _ _ => .str x

def OpS (K : PySem.W.Frag) (r : R2) (op : D → D → Option D) : Prop := ∀ (ws : Wa) (B : Addr → Prop) (H : Hp) (x y : V) (dx dy d : D) (Q : VK), (∀ a, B a → H a ≠ none) → DW K ws B H x dx → DW K ws B H y dy → op dx dy = some d →
  (∀ v H', Grow H H' → DR K ws B H' v d → Q v H') → r x y H Q
def OpT (op : D → D → Option D) : Prop := ∀ x y d, op x y = some d → rdb x = true ∧ rdb y = true
def fBin (op : D → D → Option D) (x y : M D) : M D := x.bind fun a => y.bind fun b => M.opt (op a b)
theorem fBin_go {K : PySem.W.Frag} {mg : Str → Option Value} {r : R2} {op : D → D → Option D} {f g : Dn} (hs : OpS K r op) (ht : OpT op) (σ : L2.St) (H : Hp) (Q : VK) (h : tE K mg Wx (fun sl => fBin op (f sl) (g sl)) σ H Q) : tOp r (tR K mg Wx f) (tR K mg Wx g) σ H Q := by
  obtain ⟨ws, B0, sl, w, e, h⟩ := h
  refine ⟨ws, B0, sl, w, e, (runAt.bind h).mono fun ws1 w1 x H1 l1 e1 h1 v hv => ?_⟩
  refine ⟨ws1, B0, sl, w1, e1, (runAt.bind h1).mono fun ws2 w2 y H2 l2 e2 h2 u hu => ?_⟩
  obtain ⟨d, q3, h2⟩ := runAt.opt h2
  obtain ⟨t1, t2⟩ := ht _ _ _ q3
  exact hs ws2 _ H2 v u x y d Q e2.bad (e2.rv (RV.le l2 hv) t1) (e2.rv hu t2) q3 fun v' H' g hd => runAt.grow g e2 h2 v' hd
theorem m_bin {a b : Expr} {op : Operator} {r : R2} {o : D → D → Option D} {f g : Dn} {pos : Pos} (ho : OpR X (binaryOp op) r) (hs : OpS X.K r o) (ht : OpT o) (ha : PRm X Wx a f) (hb : PRm X Wx b g) : PEm X Wx (.BinOp a op b pos) (fun sl => fBin o (f sl) (g sl)) :=
  (pe_op ho ha hb).mimp fun σ H Q h => fBin_go hs ht σ H Q h
theorem m_cmp {a b : Expr} {op : CmpOp} {r : R2} {o : D → D → Option D} {f g : Dn} {pos : Pos} (ho : OpR X (compareOp op) r) (hs : OpS X.K r o) (ht : OpT o) (ha : PRm X Wx a f) (hb : PRm X Wx b g) (hm : behindInMarks op b = false := by first | exact nomark _ | rfl) : PEm X Wx (.Compare a [op] [b] pos) (fun sl => fBin o (f sl) (g sl)) :=
  (pe_cmpR ho ha hb hm).mimp fun σ H Q h => fBin_go hs ht σ H Q h
end
end Pm
namespace Pm
open PySem PySem.Spec PyProof.Rows L2


mutual
def toPy : D → PyData
  | .non => .none
  | .bl b => .bool b
  | .int i => .int i
  | .str x => .str x
  | .tup l => .tuple (toPys l)
  | .lst l => .list (toPys l)
  | .scr l => .list (l.map PyData.int)
  | .dk _ => .none
  | .dt _ => .none
  | .town => .none
  | .fn _ _ _ => .none
  | .obj _ => .none
  | .exc _ => .none
  | .kt _ => .none
def toPys : List D → List PyData
  | [] => []
  | d :: r => toPy d :: toPys r
end
mutual
def deq : D → D → Bool
  | .non, .non => true
  | .bl a, .bl b => a == b
  | .bl a, .int j => (if a then 1 else 0) == j
  | .int i, .bl b => i == (if b then 1 else 0)
  | .int i, .int j => i == j
  | .str x, .str y => x == y
  | .tup xs, .tup ys => deqs xs ys
  | .lst xs, .lst ys => deqs xs ys
  | _, _ => false
def deqs : List D → List D → Bool
  | [], [] => true
  | x :: xs, y :: ys => deq x y && deqs xs ys
  | _, _ => false
end
def okd : Nat → D → Bool
  | _, .non => true
  | _, .bl _ => true
  | _, .int _ => true
  | _, .str x => PyData.strOk x
  | n + 1, .tup l => l.all (okd n)
  | n + 1, .lst l => l.all (okd n)
  | _, _ => false
theorem deqs_of {n : Nat} (ih : ∀ x y, okd n x = true → okd n y = true → PyData.eqv (toPy x) (toPy y) = deq x y) : ∀ (xs ys : List D), xs.all (okd n) = true → ys.all (okd n) = true → PyData.eqvAll (toPys xs) (toPys ys) = deqs xs ys
  | [], [], _, _ => rfl
  | [], _ :: _, _, _ => rfl
  | _ :: _, [], _, _ => rfl
  | x :: xs, y :: ys, h1, h2 => by
    simp only [List.all_cons, Bool.and_eq_true] at h1 h2
    show (PyData.eqv (toPy x) (toPy y) && PyData.eqvAll (toPys xs) (toPys ys)) = (deq x y && deqs xs ys)
    rw [ih x y h1.1 h2.1, deqs_of ih xs ys h1.2 h2.2]
theorem deq_of : ∀ (n : Nat) (x y : D), okd n x = true → okd n y = true → PyData.eqv (toPy x) (toPy y) = deq x y := by
  intro n
  induction n with
  | zero =>
    intro x y h1 h2
    cases x <;> cases y <;> first
      | rfl
      | (simp [okd] at h1; done)
      | (simp [okd] at h2; done)
      | (simp only [toPy, deq]; rfl)
      | (simp [toPy, deq, PyData.eqv]; done)
  | succ n ih =>
    intro x y h1 h2
    cases x <;> cases y <;> first
      | rfl
      | (simp [okd] at h1; done)
      | (simp [okd] at h2; done)
      | exact deqs_of ih _ _ h1 h2
      | (simp only [toPy, deq]; rfl)
      | (simp [toPy, deq, PyData.eqv]; done)
theorem canLay_all {n : Nat} (ih : ∀ x, okd n x = true → PyData.canLay0 (toPy x) = true) : ∀ l : List D, l.all (okd n) = true → PyData.canLayAll0 (toPys l) = true
  | [], _ => rfl
  | x :: r, h => by
    simp only [List.all_cons, Bool.and_eq_true] at h
    show (PyData.canLay0 (toPy x) && PyData.canLayAll0 (toPys r)) = true
    rw [ih x h.1, canLay_all ih r h.2]; rfl
theorem canLay_of : ∀ (n : Nat) (x : D), okd n x = true → PyData.canLay0 (toPy x) = true := by
  intro n
  induction n with
  | zero => intro x h; cases x <;> first | rfl | exact h | (simp [okd] at h; done)
  | succ n ih => intro x h; cases x <;> first | rfl | exact canLay_all ih _ h | exact h | (simp [okd] at h; done)
theorem depth_all {n : Nat} (ih : ∀ x, okd n x = true → PyData.depth (toPy x) ≤ n) : ∀ l : List D, l.all (okd n) = true → PyData.depthAll (toPys l) ≤ n
  | [], _ => Nat.zero_le _
  | x :: r, h => by
    simp only [List.all_cons, Bool.and_eq_true] at h
    have h1 := ih x h.1
    have h2 := depth_all ih r h.2
    show max (PyData.depth (toPy x)) (PyData.depthAll (toPys r)) ≤ n
    omega
theorem depth_of : ∀ (n : Nat) (x : D), okd n x = true → PyData.depth (toPy x) ≤ n := by
  intro n
  induction n with
  | zero => intro x h; cases x <;> first | exact Nat.le_refl _ | (simp [okd] at h; done)
  | succ n ih =>
    intro x h
    cases x <;> first
      | exact Nat.zero_le _
      | (simp [okd] at h; done)
      | (have q := depth_all ih _ h
         show PyData.depthAll (toPys _) + 1 ≤ n + 1
         omega)
theorem shaped_of {x : D} {n : Nat} (h : okd n x = true) (hn : n ≤ 64) : SeqAt.shaped (toPy x) = true := by
  unfold SeqAt.shaped
  rw [canLay_of n x h, decide_eq_true (Nat.le_trans (depth_of n x h) hn)]; rfl
section
variable {K : PySem.W.Frag} {ws : Wa} {B : Addr → Prop} {H : Hp} {n : Nat}
theorem dp_all (ih : ∀ v d, okd n d = true → DR K ws B H v d → Dp K H v (toPy d)) : ∀ {vs : List V} {ds : List D}, DRs K ws B H vs ds → ds.all (okd n) = true → DpAll K H vs (toPys ds)
  | _, _, .nil, _ => .nil
  | _, _, .cons h r, q => by
    simp only [List.all_cons, Bool.and_eq_true] at q
    exact .cons (ih _ _ q.1 h) (dp_all ih r q.2)
theorem dp_of : ∀ (n : Nat) (v : V) (d : D), okd n d = true → DR K ws B H v d → Dp K H v (toPy d) := by
  intro n
  induction n with
  | zero => intro v d h r; cases r <;> first | exact .non | exact .bl _ | exact .int _ | exact .str _ | (simp [okd] at h; done)
  | succ n ih =>
    intro v d h r
    cases r with
    | non => exact .non
    | bl b => exact .bl b
    | int i => exact .int i
    | str x => exact .str x
    | tup _ t r => exact .tup t.sq (dp_all ih r h)
    | lst _ _ t r => exact .lst (.inl (.inl t)) (dp_all ih r h)
    | scr => simp [okd] at h
    | dk => simp [okd] at h
    | dt => simp [okd] at h
    | town => simp [okd] at h
    | obj => simp [okd] at h
    | fn => simp [okd] at h
    | exc => simp [okd] at h
    | kt => simp [okd] at h
theorem dw_dp {v : V} {d : D} (h : okd n d = true) (r : DW K ws B H v d) : Dp K H v (toPy d) := by
  cases d with
  | non => cases r; exact .non
  | bl b => cases r; exact .bl b
  | int i => cases r; exact .int i
  | str x => cases r; exact .str x
  | tup l =>
    obtain ⟨_, a, vs, rfl, q, r⟩ := r
    cases n with
    | zero => simp [okd] at h
    | succ n => exact .tup q.sq (dp_all (dp_of n) r h)
  | lst l =>
    obtain ⟨_, a, vs, rfl, q, r⟩ := r
    cases n with
    | zero => simp [okd] at h
    | succ n => exact .lst (.inl (.inl q)) (dp_all (dp_of n) r h)
  | _ => exact absurd h (by cases n <;> simp [okd])
end


instance (i j : Int) : Decidable (CMul i j) := by unfold CMul; infer_instance
instance (i j : Int) : Decidable (CDiv i j) := by unfold CDiv; infer_instance
def addD : D → D → Option D
  | .int i, .int j => some (.int (i + j))
  | .str x, .str y => if x.length + y.length ≤ sizeLine then some (.str (x ++ y)) else none
  | .tup l, .tup m => if l.length + m.length ≤ sizeLine then some (.tup (l ++ m)) else none
  | .lst l, .lst m => if l.length + m.length ≤ sizeLine then some (.lst (l ++ m)) else none
  | _, _ => none
def subD : D → D → Option D
  | .int i, .int j => some (.int (i - j))
  | _, _ => none
def mulD : D → D → Option D
  | .int i, .int j => if CMul i j then some (.int (i * j)) else none
  | .lst l, .int k => if -(2 ^ 63) ≤ k ∧ k < 2 ^ 63 ∧ l.length * k.toNat ≤ sizeLine then some (.lst (List.replicate k.toNat l).flatten) else none
  | .tup l, .int k => if l ≠ [] ∧ 1 ≤ k ∧ k ≤ 10000 ∧ l.length ≤ 1000 then some (.tup (List.replicate k.toNat l).flatten) else if l ≠ [] ∧ k = 0 then some (.tup []) else none
  | _, _ => none
def fdivD : D → D → Option D
  | .int i, .int j => if CDiv i j then some (.int (i / j)) else none
  | _, _ => none
def modD : D → D → Option D
  | .int i, .int j => if 0 < j then some (.int (i % j)) else none
  | _, _ => none
def ltD : D → D → Option D
  | .int i, .int j => some (.bl (decide (i < j)))
  | _, _ => none
def leD : D → D → Option D
  | .int i, .int j => some (.bl (decide (i ≤ j)))
  | .str x, .str y => some (.bl (!decide (y.cps.toList < x.cps.toList)))
  | _, _ => none
def gtD : D → D → Option D
  | .int i, .int j => some (.bl (decide (j < i)))
  | _, _ => none
def geD : D → D → Option D
  | .int i, .int j => some (.bl (decide (j ≤ i)))
  | _, _ => none
def scaD : D → D → Bool
  | .non, .non => true
  | .int _, .int _ => true
  | .bl _, .bl _ => true
  | .str _, .str _ => true
  | _, _ => false
def eqD (x y : D) : Option D := if scaD x y = true ∨ (okd 40 x = true ∧ okd 40 y = true) then some (.bl (deq x y)) else none
def neD (x y : D) : Option D := if scaD x y = true ∨ (okd 40 x = true ∧ okd 40 y = true) then some (.bl (!deq x y)) else none

section
variable {K : PySem.W.Frag}
def rAddM (K : PySem.W.Frag) : R2 := fun x y H Q => (rI0 (fun i j => .int (i + j)) x y H Q ∨ (∃ i j, x = .str i ∧ y = .str j ∧ i.length + j.length ≤ sizeLine ∧ Q (.str (i ++ j)) H)) ∨ (rCatA K x y H Q ∨ rCat x y H Q)
theorem op_addM {X : Cx} : OpR X (binaryOp .Add) (rAddM X.K) := ((op_add).or op_add_str).or (op_catA.or op_cat)
theorem Dw.len {ws : Wa} {B : Addr → Prop} {H : Hp} {vs : List V} {ds : List D} (r : DRs K ws B H vs ds) : vs.length = ds.length := r.length
theorem tp_new {ws : Wa} {B : Addr → Prop} {H : Hp} {p : Addr} {vs : List V} {ds : List D} (hb : ∀ a, B a → H a ≠ none) (hp : H p = none) (hz : ds.length ≤ sizeLine) (r : DRs K ws B H vs ds) : DR K ws B (upd H p (.tup vs)) (.ref p) (.tup ds) :=
  .tup hz (.inl ⟨fun z => hb p z hp, upd_same⟩) (r.grow (Grow.new hp))
theorem ls_new {ws : Wa} {B : Addr → Prop} {H : Hp} {p : Addr} {vs : List V} {ds : List D} (hb : ∀ a, B a → H a ≠ none) (hp : H p = none) (hz : ds.length ≤ sizeLine) (r : DRs K ws B H vs ds) : DR K ws B (upd H p (.lst vs)) (.ref p) (.lst ds) :=
  .lst hz (fun z => hb p z hp) upd_same (r.grow (Grow.new hp))
theorem so_add : OpS K (rAddM K) addD := by
  intro ws B H x y dx dy d Q hb hx hy ho q
  cases dx <;> cases dy <;> first
    | (simp [addD] at ho; done)
    | skip
  · rename_i i j
    cases hx; cases hy
    simp only [addD, Option.some.injEq] at ho
    subst ho
    exact .inl (.inl ⟨i, j, rfl, rfl, q _ _ (Grow.refl H) (.int _)⟩)
  · rename_i i j
    cases hx; cases hy
    simp only [addD] at ho
    split at ho
    · rename_i hz
      cases ho
      exact .inl (.inr ⟨i, j, rfl, rfl, hz, q _ _ (Grow.refl H) (.str _)⟩)
    · cases ho
  · rename_i l m
    obtain ⟨zx, a, xs, rfl, ha, ra⟩ := hx
    obtain ⟨zy, b, ys, rfl, hb', rb⟩ := hy
    simp only [addD] at ho
    split at ho
    · rename_i hz
      cases ho
      have l1 := ra.length
      have l2 := rb.length
      refine .inr (.inl ⟨a, b, xs, ys, rfl, rfl, ha.sq, hb'.sq, by omega, fun e => ?_, fun _ e => ?_, fun _ _ p hp => q _ _ (Grow.new hp) (tp_new hb hp (by simpa using hz) (ra.append rb))⟩)
      · subst e
        cases ra
        exact q _ _ (Grow.refl H) (.tup zy hb' rb)
      · subst e
        cases rb
        rw [List.append_nil] at q
        exact q _ _ (Grow.refl H) (.tup zx ha ra)
    · cases ho
  · rename_i l m
    obtain ⟨zx, a, xs, rfl, ha, ra⟩ := hx
    obtain ⟨zy, b, ys, rfl, hb', rb⟩ := hy
    simp only [addD] at ho
    split at ho
    · rename_i hz
      cases ho
      have l1 := ra.length
      have l2 := rb.length
      exact .inr (.inr ⟨a, b, xs, ys, rfl, rfl, ha, hb', by omega, fun p hp => q _ _ (Grow.new hp) (ls_new hb hp (by simpa using hz) (ra.append rb))⟩)
    · cases ho
theorem so_I0 {g : Int → Int → V} {gd : Int → Int → D} {op : D → D → Option D} (h1 : ∀ x y d, op x y = some d → ∃ i j, x = .int i ∧ y = .int j ∧ d = gd i j) (hg : ∀ ws B H i j, DR K ws B H (g i j) (gd i j)) : OpS K (rI0 g) op := by
  intro ws B H x y dx dy d Q hb hx hy ho q
  obtain ⟨i, j, rfl, rfl, rfl⟩ := h1 _ _ _ ho
  cases hx; cases hy
  exact ⟨i, j, rfl, rfl, q _ _ (Grow.refl H) (hg _ _ _ i j)⟩
theorem so_I {C : Int → Int → Prop} {g : Int → Int → V} {gd : Int → Int → D} {op : D → D → Option D} (h1 : ∀ x y d, op x y = some d → ∃ i j, x = .int i ∧ y = .int j ∧ C i j ∧ d = gd i j) (hg : ∀ ws B H i j, DR K ws B H (g i j) (gd i j)) : OpS K (rI C g) op := by
  intro ws B H x y dx dy d Q hb hx hy ho q
  obtain ⟨i, j, rfl, rfl, hc, rfl⟩ := h1 _ _ _ ho
  cases hx; cases hy
  exact ⟨i, j, rfl, rfl, hc, q _ _ (Grow.refl H) (hg _ _ _ i j)⟩
theorem so_sub : OpS K (rI0 fun i j => .int (i - j)) subD := so_I0 (gd := fun i j => .int (i - j)) (fun x y d h => by
  cases x <;> cases y <;> first | (simp [subD] at h; done) | (simp only [subD, Option.some.injEq] at h; exact ⟨_, _, rfl, rfl, h.symm⟩)) fun _ _ _ _ _ => .int _
theorem so_fdiv : OpS K (rI CDiv fun i j => .int (i / j)) fdivD := so_I (gd := fun i j => .int (i / j)) (fun x y d h => by
  cases x <;> cases y <;> first | (simp [fdivD] at h; done) | (simp only [fdivD] at h; split at h <;> first | (cases h; exact ⟨_, _, rfl, rfl, by assumption, rfl⟩) | cases h)) fun _ _ _ _ _ => .int _
theorem so_mod : OpS K (rI (fun _ j => 0 < j) fun i j => .int (i % j)) modD := so_I (gd := fun i j => .int (i % j)) (fun x y d h => by
  cases x <;> cases y <;> first | (simp [modD] at h; done) | (simp only [modD] at h; split at h <;> first | (cases h; exact ⟨_, _, rfl, rfl, by assumption, rfl⟩) | cases h)) fun _ _ _ _ _ => .int _
theorem so_lt : OpS K (rI0 fun i j => .bl (decide (i < j))) ltD := so_I0 (gd := fun i j => .bl (decide (i < j))) (fun x y d h => by
  cases x <;> cases y <;> first | (simp [ltD] at h; done) | (simp only [ltD, Option.some.injEq] at h; exact ⟨_, _, rfl, rfl, h.symm⟩)) fun _ _ _ _ _ => .bl _
def rLeM : R2 := fun x y H Q => rI0 (fun i j => .bl (decide (i ≤ j))) x y H Q ∨ (∃ i j, x = .str i ∧ y = .str j ∧ Q (.bl (!decide (j.cps.toList < i.cps.toList))) H)
theorem op_leM {X : Cx} : OpR X (compareOp .LtE) rLeM := op_le.or op_le_str
theorem so_le : OpS K rLeM leD := by
  intro ws B H x y dx dy d Q hb hx hy ho q
  cases dx <;> cases dy <;> first
    | (simp [leD] at ho; done)
    | (cases hx; cases hy
       simp only [leD, Option.some.injEq] at ho
       subst ho
       first
         | exact .inl ⟨_, _, rfl, rfl, q _ _ (Grow.refl H) (.bl _)⟩
         | exact .inr ⟨_, _, rfl, rfl, q _ _ (Grow.refl H) (.bl _)⟩)


theorem tuple_mul1 (l : Addr) (items : Array Value) (n : Nat) (dd : Option Addr) (sl : Array (Option Value)) (u : Tok) :
    Meets (Builtin.«tuple.__mul__» ⟨[.ref l, .int 1 u], []⟩) (fun _ R s => s.heap.get? l = some { cls := .type "tuple", dict := dd, data := .seq items n, slots := sl } ∧ R (.ok (.ret (Value.ref l))) s) :=
  .of_wp fun prog w A R s h => by
    obtain ⟨hp, g, d, tk, os⟩ := s
    obtain ⟨hl, h⟩ := h
    have f1 := AutoSeq1.idx_int
    have c0 : (decide ((1 : Int) < -(2 ^ 63)) || decide ((1 : Int) ≥ 2 ^ 63)) = false := by decide
    have c1 : (items.isEmpty || (1 : Int) == 1) = true := by simp
    wp_walk using wpAny_loadPart' hl
    repeat (first
      | (refine wpAny_ite_false (decide_eq_false (by rw [c0]; exact Bool.false_ne_true)) ?_; wp_walk using wpAny_loadPart' hl)
      | (refine wpAny_ite_true (decide_eq_true c1) ?_; wp_walk using wpAny_loadPart' hl))
    exact ⟨_, rfl, h⟩
def rRep1 (K : PySem.W.Frag) : R2 := fun x y H Q => ∃ l xs, x = .ref l ∧ y = .int 1 ∧ SqT K H l xs ∧ Q (.ref l) H
theorem op_rep1 {X : Cx} : OpR X (binaryOp .Mult) (rRep1 X.K) := by
  intro pins s σ H x y v u Q I rx ry h
  obtain ⟨l, xs, rfl, rfl, hT, q⟩ := h
  cases rx
  obtain ⟨t, rfl⟩ := ry
  obtain ⟨its, r, ⟨⟨cls, dd, data, sl⟩, ho, hc, n, hd⟩, hs⟩ := I.tuple hT
  simp only at hc hd
  subst hc hd
  refine wpAny_binaryOp_repeat_ref (T := "tuple") (U := "int") (by decide) ⟨_, ho, rfl⟩ (fun s' => typeIs_int s' 1 t) noFill_tuple_mul F.fills_int_mul F.slot_int_rmul repeat_tuple F.slot_int_index.lookup
    (call_meets F.slot_int_rmul (typeIs_int s 1 t) F.entry_int_rmul (F.args_int_rmul_2 _ _) (int_rmul_tuple 1 t l its.toArray n dd sl)
      ⟨ho, rfl, ⟨_, ho, rfl⟩, call_meets F.slot_tuple_mul ⟨_, ho, rfl⟩ F.entry_tuple_mul (F.args_tuple_mul_2 _ _) (tuple_mul1 l its.toArray n dd sl t) ⟨ho, ?_⟩⟩)
  exact ⟨.ref l, H, I, rfl, q⟩
theorem tuple_mul0 (l : Addr) (items : Array Value) (n : Nat) (dd : Option Addr) (sl : Array (Option Value)) (u : Tok) (hi : items.isEmpty = false) :
    Meets (Builtin.«tuple.__mul__» ⟨[.ref l, .int 0 u], []⟩) (fun _ R s => s.heap.get? l = some { cls := .type "tuple", dict := dd, data := .seq items n, slots := sl } ∧
      R (.ok (.ret (Value.ref s.heap.objs.size))) { s with heap := s.heap.push { cls := Value.type "tuple", data := Data.seq #[] }, toks := s.toks }) :=
  .of_wp fun prog w A R s h => by
    obtain ⟨hp, g, d, tk, os⟩ := s
    obtain ⟨hl, h⟩ := h
    have f1 := AutoSeq1.idx_int
    have c0 : (decide ((0 : Int) < -(2 ^ 63)) || decide ((0 : Int) ≥ 2 ^ 63)) = false := by decide
    have c1 : (items.isEmpty || (0 : Int) == 1) = false := by rw [hi]; rfl
    have c2 : (decide ((0 : Int) ≤ 0) || items.isEmpty) = true := by rw [hi]; rfl
    wp_walk using wpAny_loadPart' hl
    repeat (first
      | (refine wpAny_ite_false (decide_eq_false (by rw [c0]; exact Bool.false_ne_true)) ?_; wp_walk using wpAny_loadPart' hl)
      | (refine wpAny_ite_false (decide_eq_false (by rw [c1]; exact Bool.false_ne_true)) ?_; wp_walk using wpAny_loadPart' hl)
      | (refine wpAny_ite_true (decide_eq_true c2) ?_; wp_walk using wpAny_loadPart' hl)
      | (refine wpAny_ite_false (decide_eq_false (Nat.not_lt.mpr (by decide))) ?_; wp_walk using wpAny_loadPart' hl))
    exact ⟨_, rfl, h⟩
def rRep0 (K : PySem.W.Frag) : R2 := fun x y H Q => ∃ l xs, x = .ref l ∧ y = .int 0 ∧ SqT K H l xs ∧ xs ≠ [] ∧ ∀ p, H p = none → Q (.ref p) (upd H p (.tup []))
theorem op_rep0 {X : Cx} : OpR X (binaryOp .Mult) (rRep0 X.K) := by
  intro pins s σ H x y v u Q I rx ry h
  obtain ⟨l, xs, rfl, rfl, hT, ne, q⟩ := h
  cases rx
  obtain ⟨t, rfl⟩ := ry
  obtain ⟨its, r, ⟨⟨cls, dd, data, sl⟩, ho, hc, n, hd⟩, hs⟩ := I.tuple hT
  simp only at hc hd
  subst hc hd
  have hi : its.toArray.isEmpty = false := by
    cases its with
    | nil => exact absurd (List.eq_nil_of_length_eq_zero r.length) ne
    | cons _ _ => rfl
  refine wpAny_binaryOp_repeat_ref (T := "tuple") (U := "int") (by decide) ⟨_, ho, rfl⟩ (fun s' => typeIs_int s' 0 t) noFill_tuple_mul F.fills_int_mul F.slot_int_rmul repeat_tuple F.slot_int_index.lookup
    (call_meets F.slot_int_rmul (typeIs_int s 0 t) F.entry_int_rmul (F.args_int_rmul_2 _ _) (int_rmul_tuple 0 t l its.toArray n dd sl)
      ⟨ho, rfl, ⟨_, ho, rfl⟩, call_meets F.slot_tuple_mul ⟨_, ho, rfl⟩ F.entry_tuple_mul (F.args_tuple_mul_2 _ _) (tuple_mul0 l its.toArray n dd sl t hi) ⟨ho, ?_⟩⟩)
  refine ⟨.ref s.heap.objs.size, _, I.laid (t' := s.toks) (o := .tup []) (fun b ob q => Heap.get?_push_of_some _ q) (Nat.le_refl _) ?_, rfl, q _ (I.hok.fresh (Nat.le_refl _))⟩
  exact ⟨Nat.zero_le _, [], .nil, IsTup.new _ _⟩
def rRepU (K : PySem.W.Frag) : R2 := fun x y H Q => ∃ l k xs, x = .ref l ∧ y = .int k ∧ SqT K H l xs ∧ xs ≠ [] ∧ 2 ≤ k ∧ k ≤ 10000 ∧ xs.length ≤ 1000 ∧ ∀ p, H p = none → Q (.ref p) (upd H p (.tup (List.replicate k.toNat xs).flatten))
theorem op_repU {X : Cx} : OpR X (binaryOp .Mult) (rRepU X.K) := by
  intro pins s σ H x y v u Q I rx ry h
  obtain ⟨l, k, xs, rfl, rfl, hT, ne, k1, k2, z, q⟩ := h
  cases rx
  obtain ⟨t, rfl⟩ := ry
  obtain ⟨ws, r, ⟨⟨cl, dd, da, sl⟩, ho, e1, n, e2⟩, _⟩ := I.tuple hT
  simp only at e1 e2
  subst e1 e2
  have hl : ws.length = xs.length := r.length.symm
  have hi : ws.toArray.isEmpty = false := by
    cases ws with
    | nil => exact absurd (List.eq_nil_of_length_eq_zero hl.symm) ne
    | cons _ _ => rfl
  have hw : ws.toArray.size = xs.length := by rw [List.size_toArray, hl]
  have big : (xs.length : Int) * k ≤ 1000 * k := Int.mul_le_mul_of_nonneg_right (by omega) (by omega)
  have many : k.toNat * xs.length ≤ 10000 * 1000 := Nat.mul_le_mul (by omega) z
  have len : (List.replicate k.toNat ws).flatten.length ≤ sizeLine := by rw [PyProof.Rows.lm_len_rep_flat, hl, sizeLine_eq]; omega
  have t1 : (decide (k < -(2 ^ 63)) || decide (k ≥ 2 ^ 63)) = false := by rw [decide_eq_false (by omega), decide_eq_false (by omega)] <;> rfl
  have t2 : (ws.toArray.isEmpty || k == 1) = false := by rw [hi, Bool.false_or]; exact beq_eq_false_iff_ne.mpr (by omega)
  have t3 : (decide (k ≤ 0) || ws.toArray.isEmpty) = false := by rw [hi, Bool.or_false]; exact decide_eq_false (by omega)
  have t4 : Builtin.Tuple.tupleTooMany (((ws.toArray.size : Nat) : Int) * k) = false := by unfold Builtin.Tuple.tupleTooMany; rw [sizeLine_eq, hw]; exact decide_eq_false (by omega)
  have t5 : ¬ ((ws.toArray.size : Nat) : Int) * k > (2 ^ 63 - 1) / 8 := by rw [hw]; omega
  refine wpAny_binaryOp_repeat_ref (T := "tuple") (U := "int") (by decide) ⟨_, ho, rfl⟩ (fun s' => PySem.typeIs_int s' k t) noFill_tuple_mul F.fills_int_mul F.slot_int_rmul repeat_tuple F.slot_int_index.lookup
    (call_meets F.slot_int_rmul (PySem.typeIs_int s k t) F.entry_int_rmul (F.args_int_rmul_2 _ _) (int_rmul_tuple k t l ws.toArray n dd sl) ⟨ho, rfl, ⟨_, ho, rfl⟩, call_meets F.slot_tuple_mul ⟨_, ho, rfl⟩ F.entry_tuple_mul (F.args_tuple_mul_2 _ _) (tuple_mulW l ws.toArray n dd sl k t t1 t2 t3 t5 t4 (by rw [size_rep, List.size_toArray]; exact len)) ⟨ho, ?_⟩⟩)
  rw [size_rep]
  refine ⟨.ref s.heap.objs.size, _, I.laid (t' := s.toks) (o := .tup (List.replicate k.toNat xs).flatten) (fun b ob q => Heap.get?_push_of_some _ q) (Nat.le_refl _) ?_, rfl, q _ (I.hok.fresh (Nat.le_refl _))⟩
  exact ⟨by rw [PyProof.Rows.lm_len_rep_flat, sizeLine_eq]; omega, _, r.rep k.toNat, IsTup.new _ _⟩
def rMulM (K : PySem.W.Frag) : R2 := fun x y H Q => (rI CMul (fun i j => .int (i * j)) x y H Q ∨ rRep x y H Q) ∨ (rRepU K x y H Q ∨ (rRep1 K x y H Q ∨ rRep0 K x y H Q))
theorem op_mulM {X : Cx} : OpR X (binaryOp .Mult) (rMulM X.K) := (op_mul.or op_rep).or (op_repU.or (op_rep1.or op_rep0))
theorem DRs.rep {ws : Wa} {B : Addr → Prop} {H : Hp} {vs : List V} {ds : List D} (r : DRs K ws B H vs ds) : ∀ n, DRs K ws B H (List.replicate n vs).flatten (List.replicate n ds).flatten
  | 0 => .nil
  | n + 1 => by rw [List.replicate_succ, List.replicate_succ, List.flatten_cons, List.flatten_cons]; exact r.append (DRs.rep r n)
theorem rep_len {α : Type} (l : List α) : ∀ n : Nat, (List.replicate n l).flatten.length = l.length * n
  | 0 => by simp
  | n + 1 => by rw [List.replicate_succ, List.flatten_cons, List.length_append, rep_len l n, Nat.mul_succ, Nat.add_comm]
theorem so_mul : OpS K (rMulM K) mulD := by
  intro ws B H x y dx dy d Q hb hx hy ho q
  cases dx <;> cases dy <;> first
    | (simp [mulD] at ho; done)
    | skip
  · cases hx; cases hy
    simp only [mulD] at ho
    split at ho
    · cases ho; exact .inl (.inl ⟨_, _, rfl, rfl, by assumption, q _ _ (Grow.refl H) (.int _)⟩)
    · cases ho
  · rename_i l k
    obtain ⟨zx, a, vs, rfl, t, r⟩ := hx
    have hy : y = .int k := hy
    subst hy
    simp only [mulD] at ho
    split at ho
    · rename_i h1
      cases ho
      by_cases hk : k = 1
      · subst hk
        have e : (List.replicate (1 : Int).toNat l).flatten = l := by simp
        rw [e] at q
        exact .inr (.inr (.inl ⟨a, vs, rfl, rfl, t.sq, q _ _ (Grow.refl H) (.tup zx t r)⟩))
      · have hl := r.length
        refine .inr (.inl ⟨a, k, vs, rfl, rfl, t.sq, fun z => h1.1 (List.eq_nil_of_length_eq_zero (by rw [← hl, z]; rfl)), by omega, h1.2.2.1, by rw [hl]; exact h1.2.2.2, fun p hp => ?_⟩)
        refine q _ _ (Grow.new hp) (tp_new hb hp ?_ (r.rep k.toNat))
        rw [rep_len]
        have h2 : l.length * k.toNat ≤ 1000 * 10000 := Nat.mul_le_mul h1.2.2.2 (by omega)
        exact Nat.le_trans h2 (by decide)
    · split at ho
      · rename_i h1
        cases ho
        obtain ⟨h1, rfl⟩ := h1
        have hl := r.length
        exact .inr (.inr (.inr ⟨a, vs, rfl, rfl, t.sq, fun z => h1 (List.eq_nil_of_length_eq_zero (by rw [← hl, z]; rfl)), fun p hp => q _ _ (Grow.new hp) (tp_new hb hp (Nat.zero_le _) .nil)⟩))
      · cases ho
  · obtain ⟨zx, a, xs, rfl, ha, ra⟩ := hx
    cases hy
    simp only [mulD] at ho
    split at ho
    · rename_i hc
      cases ho
      have l1 := ra.length
      exact .inl (.inr ⟨a, _, xs, rfl, rfl, ha, hc.1, hc.2.1, by rw [l1]; exact hc.2.2, fun p hp => q _ _ (Grow.new hp) (ls_new hb hp (by rw [rep_len]; exact hc.2.2) (ra.rep _))⟩)
    · cases ho


def rEqM (K : PySem.W.Frag) : R2 := fun x y H Q => rEq x y H Q ∨ rEqD K x y H Q
def rNeM (K : PySem.W.Frag) : R2 := fun x y H Q => rNe x y H Q ∨ rNeD K x y H Q
theorem op_eqM {X : Cx} (hu : X.A.units + 64 < cLine) : OpR X (compareOp .Eq) (rEqM X.K) := op_eq.or (op_eqD hu)
theorem op_neM {X : Cx} (hu : X.A.units + 64 < cLine) : OpR X (compareOp .NotEq) (rNeM X.K) := op_ne.or (op_neD hu)
theorem sca_eq {ws : Wa} {B : Addr → Prop} {H : Hp} {x y : V} {dx dy : D} (h : scaD dx dy = true) (hx : DW K ws B H x dx) (hy : DW K ws B H y dy) : scal x y = true ∧ decide (x = y) = deq dx dy := by
  cases dx <;> cases dy <;> first
    | (simp [scaD] at h; done)
    | (cases hx; cases hy
       refine ⟨rfl, ?_⟩
       first
         | rfl
         | (simp only [deq]
            rw [Bool.beq_eq_decide_eq]
            congr 1
            simp)
         | (simp only [deq]
            rw [Bool.eq_iff_iff]
            simp))
theorem so_eq : OpS K (rEqM K) eqD := by
  intro ws B H x y dx dy d Q hb hx hy ho q
  unfold eqD at ho
  split at ho
  · rename_i hc
    cases ho
    rcases hc with hc | ⟨h1, h2⟩
    · obtain ⟨e1, e2⟩ := sca_eq hc hx hy
      exact .inl ⟨e1, by rw [e2]; exact q _ _ (Grow.refl H) (.bl _)⟩
    · refine .inr ⟨_, _, dw_dp h1 hx, dw_dp h2 hy, shaped_of h1 (by decide), shaped_of h2 (by decide), ?_⟩
      rw [deq_of 40 _ _ h1 h2]
      exact q _ _ (Grow.refl H) (.bl _)
  · cases ho
theorem so_ne : OpS K (rNeM K) neD := by
  intro ws B H x y dx dy d Q hb hx hy ho q
  unfold neD at ho
  split at ho
  · rename_i hc
    cases ho
    rcases hc with hc | ⟨h1, h2⟩
    · obtain ⟨e1, e2⟩ := sca_eq hc hx hy
      exact .inl ⟨e1, by rw [e2]; exact q _ _ (Grow.refl H) (.bl _)⟩
    · refine .inr ⟨_, _, dw_dp h1 hx, dw_dp h2 hy, shaped_of h1 (by decide), shaped_of h2 (by decide), ?_⟩
      rw [deq_of 40 _ _ h1 h2]
      exact q _ _ (Grow.refl H) (.bl _)
  · cases ho
end

theorem ot_add : OpT addD := fun x y d h => by cases x <;> cases y <;> first | exact ⟨rfl, rfl⟩ | cases h
theorem ot_sub : OpT subD := fun x y d h => by cases x <;> cases y <;> first | exact ⟨rfl, rfl⟩ | cases h
theorem ot_mul : OpT mulD := fun x y d h => by cases x <;> cases y <;> first | exact ⟨rfl, rfl⟩ | cases h
theorem ot_fdiv : OpT fdivD := fun x y d h => by cases x <;> cases y <;> first | exact ⟨rfl, rfl⟩ | cases h
theorem ot_mod : OpT modD := fun x y d h => by cases x <;> cases y <;> first | exact ⟨rfl, rfl⟩ | cases h
theorem ot_le : OpT leD := fun x y d h => by cases x <;> cases y <;> first | exact ⟨rfl, rfl⟩ | cases h
theorem rdb_ok {n : Nat} {x : D} (h : okd n x = true) : rdb x = true := by cases x <;> first | rfl | (cases n <;> cases h)
theorem rdb_sca {x y : D} (h : scaD x y = true) : rdb x = true ∧ rdb y = true := by cases x <;> cases y <;> first | exact ⟨rfl, rfl⟩ | cases h
theorem ot_eq : OpT eqD := fun x y d h => by
  unfold eqD at h
  split at h
  · rename_i hc
    rcases hc with hc | ⟨h1, h2⟩
    · exact rdb_sca hc
    · exact ⟨rdb_ok h1, rdb_ok h2⟩
  · cases h
theorem ot_ne : OpT neD := fun x y d h => by
  unfold neD at h
  split at h
  · rename_i hc
    rcases hc with hc | ⟨h1, h2⟩
    · exact rdb_sca hc
    · exact ⟨rdb_ok h1, rdb_ok h2⟩
  · cases h
end Pm
namespace Pm
open PySem L2


def truD : D → Option Bool
  | .non => some false
  | .bl b => some b
  | .int i => some (i != 0)
  | .str x => if x.length ≤ sizeLine then some ((x.length : Int) != 0) else none
  | .tup l => some (!l.isEmpty)
  | .lst l => some (!l.isEmpty)
  | .scr l => some (!l.isEmpty)
  | .dk l => some (!l.isEmpty)
  | _ => none
def fTru (x : M D) : M Bool := x.bind fun d => M.opt (truD d)
def blD : D → Option Bool
  | .bl b => some b
  | _ => none
def fOf (x : M D) : M Bool := x.bind fun d => M.opt (blD d)
def fIf {α : Type} (c : M Bool) (f g : M α) : M α := c.bind fun b => if b = true then f else g
def fAndB (f g : M Bool) : M Bool := f.bind fun b => if b = true then g else M.pure false
def fOrB (f g : M Bool) : M Bool := f.bind fun b => if b = true then M.pure true else g
def fNotB (f : M Bool) : M Bool := f.bind fun b => M.pure (!b)
def fAnd (f g : M D) : M D := f.bind fun x => (M.opt (blD x)).bind fun b => if b = true then g else M.pure (.bl false)
def fOr (f g : M D) : M D := f.bind fun x => (M.opt (blD x)).bind fun b => if b = true then M.pure (.bl true) else g
def fNot (f : M D) : M D := f.bind fun x => (M.opt (truD x)).bind fun b => M.pure (.bl (!b))

section
variable {K : PySem.W.Frag} {mg : Str → Option Value} {Wx : WX} {ws : Wa} {B0 : Addr → Prop} {σ : L2.St} {H : Hp} {v : V}
theorem tru_of {B : Addr → Prop} {d : D} {b : Bool} (h : DW K ws B H v d) (ht : truD d = some b) : TruV K v H b := by
  cases d with
  | non => cases h; cases ht; rfl
  | bl => cases h; cases ht; rfl
  | int => cases h; cases ht; rfl
  | str x =>
    cases h
    simp only [truD] at ht
    split at ht
    · cases ht; exact ⟨by assumption, rfl⟩
    · cases ht
  | tup l =>
    obtain ⟨_, a, vs, rfl, q, r⟩ := h
    cases ht
    exact .inr (.inl ⟨vs, q.sq, by cases r <;> rfl⟩)
  | lst l =>
    obtain ⟨_, a, vs, rfl, q, r⟩ := h
    cases ht
    exact .inl ⟨vs, .inl (.inl q), by cases r <;> rfl⟩
  | scr l =>
    obtain ⟨a, rfl, q⟩ := h
    cases ht
    exact .inl ⟨_, q, by cases l <;> rfl⟩
  | dk l =>
    obtain ⟨a, kvs, rfl, q, e, r⟩ := h
    cases ht
    refine .inr (.inr ⟨kvs, q, ?_⟩)
    cases kvs <;> cases l <;> first | rfl | simp at e
  | _ => cases ht
theorem rdb_tru {d : D} {b : Bool} (h : truD d = some b) : rdb d = true := by cases d <;> first | rfl | cases h
theorem fOf_go {F : Dn} {Q : Bool → Hp → Prop} (h : tT K mg Wx (fun sl => fOf (F sl)) σ H Q) : tE K mg Wx F σ H (fun x H' => ∃ k, x = .bl k ∧ Q k H') := by
  obtain ⟨ws, B0, sl, w, e, h⟩ := h
  refine ⟨ws, B0, sl, w, e, (runAt.bind h).mono fun ws1 s1 d H1 l1 e1 h1 v hv => ?_⟩
  obtain ⟨b, q, h1⟩ := runAt.opt h1
  cases d <;> first | (cases q; done) | skip
  cases q
  cases hv
  exact ⟨_, rfl, runAt.here e1 h1⟩
end
section
variable {X : Cx} {Wx : WX} {a b c : Expr} {pos : Pos}
theorem mt_truth {f : Dn} (ha : PRm X Wx a f) (he : ∀ whole, isTrue a X.env whole = (do let v ← whole; standAt a.pos; holding [v] (truthy v)) := by intro _; rfl) : PTm X Wx a (fun sl => fTru (f sl)) := by
  refine (pt_truth ha he).mimp fun σ H Q ⟨ws, B0, sl, w, e, h⟩ => ?_
  refine ⟨ws, B0, sl, w, e, (runAt.bind h).mono fun ws1 s1 d H1 l1 e1 h1 v hv => ?_⟩
  obtain ⟨b, q2, h1⟩ := runAt.opt h1
  exact ⟨b, tru_of (e1.rv hv (rdb_tru q2)) q2, runAt.here e1 h1⟩
theorem mt_cmp {op : CmpOp} {r : R2} {o : D → D → Option D} {f g : Dn} (ho : OpR X (compareOp op) r) (hs : OpS X.K r o) (ht : OpT o) (ha : PRm X Wx a f) (hb : PRm X Wx b g) (hm : behindInMarks op b = false := by first | exact nomark _ | rfl) : PTm X Wx (.Compare a [op] [b] pos) (fun sl => fOf (fBin o (f sl) (g sl))) :=
  (pt_cmpR ho ha hb hm).mimp fun σ H Q h => fBin_go hs ht σ H _ (fOf_go h)
def fChain (o o' : D → D → Option D) (x y z : M D) : M D := x.bind fun a => y.bind fun b => (M.opt (o a b)).bind fun r => (M.opt (blD r)).bind fun t => if t = true then z.bind fun c => M.opt (o' b c) else M.pure (.bl false)
theorem fChain_go {K : PySem.W.Frag} {mg : Str → Option Value} {r r' : R2} {o o' : D → D → Option D} {f g h : Dn} (hs : OpS K r o) (ht : OpT o) (hs' : OpS K r' o') (ht' : OpT o') (σ : L2.St) (H : Hp) (Q : VK) (q : tE K mg Wx (fun sl => fChain o o' (f sl) (g sl) (h sl)) σ H Q) :
    tChain r r' (tR K mg Wx f) (tR K mg Wx g) (tR K mg Wx h) σ H Q := by
  obtain ⟨ws, B0, sl, w, e, q⟩ := q
  refine ⟨ws, B0, sl, w, e, (runAt.bind q).mono fun ws1 w1 x H1 l1 e1 h1 v hv => ?_⟩
  refine ⟨ws1, B0, sl, w1, e1, (runAt.bind h1).mono fun ws2 w2 y H2 l2 e2 h2 u hu => ?_⟩
  have hv2 := RV.le l2 hv
  cases q3 : o x y with
  | none => rw [q3] at h2; exact h2.elim
  | some z =>
    rw [q3] at h2
    simp only [opt_some, pure_bind] at h2
    obtain ⟨t1, t2⟩ := ht _ _ _ q3
    refine hs ws2 _ H2 v u x y z _ e2.bad (e2.rv hv2 t1) (e2.rv hu t2) q3 fun v' H' gr hd => ?_
    have h3 := runAt.le (gr.le ws2 (Own sl σ)) h2
    have e3 := e2.grow gr
    cases z with
    | bl k =>
      cases hd
      refine ⟨k, rfl, ?_⟩
      cases k with
      | true =>
        rw [if_pos rfl]
        refine ⟨ws2, B0, sl, w2, e3, (runAt.bind (show runAt K mg Wx ws2 B0 sl σ H' (M.bind (h sl) (fun c => M.opt (o' y c)) w2) _ from h3)).mono fun ws4 w4 c H4 l4 e4 h4 w' hw => ?_⟩
        have hu4 := RV.le ((gr.le ws2 (Own sl σ)).trans l4) hu
        obtain ⟨d4, p3, h4⟩ := runAt.opt h4
        obtain ⟨t3, t4⟩ := ht' _ _ _ p3
        exact hs' ws4 _ H4 u w' y c d4 Q e4.bad (e4.rv hu4 t3) (e4.rv hw t4) p3 fun v' H' g hd => runAt.grow g e4 h4 v' hd
      | false =>
        rw [if_neg Bool.false_ne_true]
        exact runAt.here (a := D.bl false) (w := w2) e3 h3 _ (.bl false)
    | _ => exact h3.elim
theorem m_chain {op op' : CmpOp} {r r' : R2} {o o' : D → D → Option D} {f g h : Dn} (ho : OpR X (compareOp op) r) (hs : OpS X.K r o) (ht : OpT o) (ho' : OpR X (compareOp op') r') (hs' : OpS X.K r' o') (ht' : OpT o') (ha : PRm X Wx a f) (hb : PRm X Wx b g) (hc : PRm X Wx c h)
    (hm : lastMarks [op, op'] [b, c] = false := by with_unfolding_all rfl) : PEm X Wx (.Compare a [op, op'] [b, c] pos) (fun sl => fChain o o' (f sl) (g sl) (h sl)) :=
  (pe_chain ho ho' ha hb hc hm).mimp fun σ H Q q => fChain_go hs ht hs' ht' σ H Q q
theorem mt_chain {op op' : CmpOp} {r r' : R2} {o o' : D → D → Option D} {f g h : Dn} (ho : OpR X (compareOp op) r) (hs : OpS X.K r o) (ht : OpT o) (ho' : OpR X (compareOp op') r') (hs' : OpS X.K r' o') (ht' : OpT o') (ha : PRm X Wx a f) (hb : PRm X Wx b g) (hc : PRm X Wx c h)
    (hm : lastMarks [op, op'] [b, c] = false := by with_unfolding_all rfl) : PTm X Wx (.Compare a [op, op'] [b, c] pos) (fun sl => fOf (fChain o o' (f sl) (g sl) (h sl))) :=
  (pt_chain ho ho' ha hb hc hm).mimp fun σ H Q q => fChain_go hs ht hs' ht' σ H _ (fOf_go q)

abbrev PWm (X : Cx) (Wx : WX) (e : Expr) (f : Bn) : Prop := PW X e (tT X.K X.mg Wx f)
theorem _root_.L2.PW.mimp {X : Cx} {e : Expr} {t t' : TT} (h : PW X e t) (f : ∀ σ H Q, t' σ H Q → t σ H Q) : PW X e t' := ⟨fun wh pins s σ H Q I q => h.run wh pins s σ H Q I (f _ _ _ q)⟩
variable {rest : List Expr}
theorem mw_or1 {f : Bn} (ha : PTm X Wx a f) : PWm X Wx (.BoolOp .Or [a] pos) f := pw_or1 ha
theorem mw_or {f g : Bn} (ha : PTm X Wx a f) (hb : PWm X Wx (.BoolOp .Or (b :: rest) pos) g) : PWm X Wx (.BoolOp .Or (a :: b :: rest) pos) (fun sl => fOrB (f sl) (g sl)) := by
  refine (pw_or ha hb).mimp fun σ H Q ⟨ws, B0, sl, w, e, h⟩ => ?_
  refine ⟨ws, B0, sl, w, e, (runAt.bind h).mono fun ws1 w1 b H1 l1 e1 h1 => ?_⟩
  cases b with
  | true => exact runAt.here e1 h1
  | false => exact ⟨ws1, B0, sl, w1, e1, h1⟩
theorem mt_w {f : Bn} (h : PWm X Wx a f) : PTm X Wx a f := h.pt
theorem mt_not {f : Bn} (ha : PTm X Wx a f) : PTm X Wx (.UnaryOp .Not a pos) (fun sl => fNotB (f sl)) := by
  refine (pt_not ha).mimp fun σ H Q ⟨ws, B0, sl, w, e, h⟩ => ?_
  exact ⟨ws, B0, sl, w, e, (runAt.bind h).mono fun ws1 s1 b H1 l1 e1 h1 => runAt.here e1 h1⟩
theorem m_and {f g : Dn} (ha : PEm X Wx a f) (hb : PEm X Wx (.BoolOp .And (b :: rest) pos) g) : PEm X Wx (.BoolOp .And (a :: b :: rest) pos) (fun sl => fAnd (f sl) (g sl)) := by
  refine (pe_and ha hb).mimp fun σ H Q ⟨ws, B0, sl, w, e, h⟩ => ?_
  refine ⟨ws, B0, sl, w, e, (runAt.bind h).mono fun ws1 w1 x H1 l1 e1 h1 v hv => ?_⟩
  cases x with
  | bl k =>
    cases hv
    refine ⟨k, rfl, ?_⟩
    cases k with
    | true => exact ⟨ws1, B0, sl, w1, e1, h1⟩
    | false => exact runAt.here (a := D.bl false) (w := w1) e1 h1 _ (.bl false)
  | _ => exact h1.elim
theorem m_one {op} {f : Dn} (ha : PEm X Wx a f) : PEm X Wx (.BoolOp op [a] pos) f := pe_one ha
theorem m_not {f : Dn} (ha : PRm X Wx a f) : PEm X Wx (.UnaryOp .Not a pos) (fun sl => fNot (f sl)) := by
  refine (pe_notT ha).mimp fun σ H Q ⟨ws, B0, sl, w, e, h⟩ => ?_
  refine ⟨ws, B0, sl, w, e, (runAt.bind h).mono fun ws1 s1 d H1 l1 e1 h1 v hv => ?_⟩
  cases q3 : truD d with
  | none => rw [q3] at h1; exact h1.elim
  | some b =>
    rw [q3] at h1
    exact ⟨b, tru_of (e1.rv hv (rdb_tru q3)) q3, runAt.here e1 h1 _ (.bl _)⟩
theorem m_if {cf : Bn} {f g : Dn} (hc : PTm X Wx c cf) (ha : PEm X Wx a f) (hb : PEm X Wx b g) : PEm X Wx (.IfExp c a b pos) (fun sl => fIf (cf sl) (f sl) (g sl)) := by
  refine (pe_ifExp hc ha hb).mimp fun σ H Q ⟨ws, B0, sl, w, e, h⟩ => ?_
  refine ⟨ws, B0, sl, w, e, (runAt.bind h).mono fun ws1 w1 b H1 l1 e1 h1 => ?_⟩
  cases b with
  | true => exact ⟨ws1, B0, sl, w1, e1, h1⟩
  | false => exact ⟨ws1, B0, sl, w1, e1, h1⟩
theorem r_if {cf : Bn} {f g : Dn} (hc : PTm X Wx c cf) (ha : PRm X Wx a f) (hb : PRm X Wx b g) : PRm X Wx (.IfExp c a b pos) (fun sl => fIf (cf sl) (f sl) (g sl)) := by
  refine (pe_ifExp hc ha hb).mimp fun σ H Q ⟨ws, B0, sl, w, e, h⟩ => ?_
  refine ⟨ws, B0, sl, w, e, (runAt.bind h).mono fun ws1 w1 b H1 l1 e1 h1 => ?_⟩
  cases b with
  | true => exact ⟨ws1, B0, sl, w1, e1, h1⟩
  | false => exact ⟨ws1, B0, sl, w1, e1, h1⟩
def negD : D → Option D
  | .int i => some (.int (-i))
  | _ => none
def fNeg (x : M D) : M D := x.bind fun d => M.opt (negD d)
theorem m_neg {f : Dn} (ha : PEm X Wx a f) : PEm X Wx (.UnaryOp .USub a pos) (fun sl => fNeg (f sl)) := by
  refine (pe_un un_neg ha).mimp fun σ H Q ⟨ws, B0, sl, w, e, h⟩ => ?_
  refine ⟨ws, B0, sl, w, e, (runAt.bind h).mono fun ws1 s1 d H1 l1 e1 h1 v hv => ?_⟩
  obtain ⟨r, q, h1⟩ := runAt.opt h1
  cases d <;> first | (cases q; done) | skip
  cases q
  cases hv
  exact ⟨_, rfl, runAt.here e1 h1 _ (.int _)⟩


def fNil : M (List D) := M.pure []
def fCons (x : M D) (r : M (List D)) : M (List D) := x.bind fun a => r.bind fun l => M.pure (a :: l)
variable {e : Expr} {es : List Expr}
theorem ma_nil : PAm X Wx [] (fun _ => fNil) := pa_nil.mimp fun σ H Q ⟨ws, B0, sl, w, e, h⟩ => runAt.here e h [] .nil
theorem ma_cons {f : Dn} {g : An} (ha : PEm X Wx e f) (hr : PAm X Wx es g) (hs : starEach (e :: es) X.env = (false, eval e X.env) :: starEach es X.env := by rfl) : PAm X Wx (e :: es) (fun sl => fCons (f sl) (g sl)) := by
  refine (pa_cons ha hr hs).mimp fun σ H Q ⟨ws, B0, sl, w, e, h⟩ => ?_
  refine ⟨ws, B0, sl, w, e, (runAt.bind h).mono fun ws1 w1 x H1 l1 e1 h1 v hv => ?_⟩
  refine ⟨ws1, B0, sl, w1, e1, (runAt.bind h1).mono fun ws2 w2 xs H2 l2 e2 h2 vs hvs => ?_⟩
  exact runAt.here e2 h2 _ (.cons (hv.le l2) hvs)
theorem mr_nil : PArm X Wx [] (fun _ => fNil) := pa_nil.mimp fun σ H Q ⟨ws, B0, sl, w, e, h⟩ => runAt.here e h [] .nil
theorem mr_cons {f : Dn} {g : An} (ha : PRm X Wx e f) (hr : PArm X Wx es g) (hs : starEach (e :: es) X.env = (false, eval e X.env) :: starEach es X.env := by rfl) : PArm X Wx (e :: es) (fun sl => fCons (f sl) (g sl)) := by
  refine (pa_cons ha hr hs).mimp fun σ H Q ⟨ws, B0, sl, w, e, h⟩ => ?_
  refine ⟨ws, B0, sl, w, e, (runAt.bind h).mono fun ws1 w1 x H1 l1 e1 h1 v hv => ?_⟩
  refine ⟨ws1, B0, sl, w1, e1, (runAt.bind h1).mono fun ws2 w2 xs H2 l2 e2 h2 vs hvs => ?_⟩
  exact runAt.here e2 h2 _ (.cons (RV.le l2 hv) hvs)
def fTup (g : M (List D)) : M D := g.bind fun l => M.pure (.tup l)
def fLst (g : M (List D)) : M D := g.bind fun l => M.pure (.lst l)
def Cnt (n : Nat) (g : An) : Prop := ∀ sl w l w', g sl w = .ok l w' → l.length = n
theorem cnt_nil : Cnt 0 (fun _ => fNil) := fun sl w l w' h => by cases h; rfl
theorem cnt_cons {n : Nat} {f : Dn} {g : An} (h : Cnt n g) : Cnt (n + 1) (fun sl => fCons (f sl) (g sl)) := fun sl w l w' q => by
  have q : M.bind (f sl) (fun a => (g sl).bind fun l => M.pure (a :: l)) w = .ok l w' := q
  unfold M.bind at q
  cases q1 : f sl w with
  | bad => rw [q1] at q; cases q
  | ex c w1 => rw [q1] at q; cases q
  | ok a w1 =>
    rw [q1] at q
    simp only at q
    cases q2 : g sl w1 with
    | bad => rw [q2] at q; cases q
    | ex c w1 => rw [q2] at q; cases q
    | ok r w2 =>
      rw [q2] at q
      cases q
      rw [List.length_cons, h _ _ _ _ q2]
theorem m_tup {n : Nat} {g : An} {x1} (h : PAm X Wx es g) (hn : Cnt n g) (hz : n ≤ 1000 := by decide) : PEm X Wx (.Tuple es x1 pos) (fun sl => fTup (g sl)) := by
  refine (pe_tup h).mimp fun σ H Q ⟨ws, B0, sl, w, e, h⟩ => ?_
  refine ⟨ws, B0, sl, w, e, ?_⟩
  have h1 := runAt.bind h
  cases q : g sl w with
  | bad => rw [q] at h1; exact h1
  | ex c w1 => rw [q] at h1; exact h1
  | ok ds w1 =>
    rw [q] at h1
    intro ws1 H1 l1 e1 vs hvs
    have h2 := h1 ws1 H1 l1 e1
    have hl := hvs.length
    have hz' : ds.length ≤ sizeLine := by rw [hn _ _ _ _ q]; exact Nat.le_trans hz (by decide)
    exact ⟨by omega, fun p hp => runAt.grow (Grow.new hp) e1 h2 _ (tp_new e1.bad hp hz' hvs)⟩
theorem m_lst {n : Nat} {g : An} (h : PAm X Wx es g) (hn : Cnt n g) (hz : n ≤ 1000 := by decide) : PEm X Wx (.List es pos) (fun sl => fLst (g sl)) := by
  refine (pe_lst h).mimp fun σ H Q ⟨ws, B0, sl, w, e, h⟩ => ?_
  refine ⟨ws, B0, sl, w, e, ?_⟩
  have h1 := runAt.bind h
  cases q : g sl w with
  | bad => rw [q] at h1; exact h1
  | ex c w1 => rw [q] at h1; exact h1
  | ok ds w1 =>
    rw [q] at h1
    intro ws1 H1 l1 e1 vs hvs
    have h2 := h1 ws1 H1 l1 e1
    have hl := hvs.length
    have hz' : ds.length ≤ sizeLine := by rw [hn _ _ _ _ q]; exact Nat.le_trans hz (by decide)
    exact ⟨by omega, fun p hp => runAt.grow (Grow.new hp) e1 h2 _ (ls_new e1.bad hp hz' hvs)⟩
end
end Pm
namespace Pm
open PySem L2


def ixD : D → D → Option D
  | .tup l, .int i => atI l i
  | .lst l, .int i => atI l i
  | .scr l, .int i => (atI l i).map .int
  | .str z, .int i => if z.length ≤ sizeLine then (atI z.cps.toList i).map fun c => .str ⟨#[c]⟩ else none
  | _, _ => none
section
variable {K : PySem.W.Frag} {ws : Wa} {B : Addr → Prop} {H : Hp}
theorem atI_DRs {vs : List V} {ds : List D} {i : Int} {d : D} (r : DRs K ws B H vs ds) (h : atI ds i = some d) : ∃ v, atI vs i = some v ∧ DR K ws B H v d := by
  unfold atI at h ⊢
  rw [r.length]
  cases q : ixN ds.length i with
  | none => rw [q] at h; cases h
  | some j =>
    rw [q] at h
    obtain ⟨v, h1, h2⟩ := r.get h
    exact ⟨v, h1, h2⟩
theorem atI_map {α β : Type} (f : α → β) (l : List α) (i : Int) : atI (l.map f) i = (atI l i).map f := by
  unfold atI
  rw [List.length_map]
  cases ixN l.length i with
  | none => rfl
  | some j => simp
theorem so_ix : OpS K (rIx K) ixD := by
  intro ws B H x y dx dy d Q hb hx hy ho q
  cases dx <;> cases dy <;> first
    | (simp [ixD] at ho; done)
    | skip
  · cases hx; cases hy
    simp only [ixD] at ho
    split at ho
    · rename_i z i hz
      cases e : atI z.cps.toList i with
      | none => rw [e] at ho; cases ho
      | some c =>
        rw [e] at ho
        cases ho
        exact .inr (.inr ⟨z, i, c, rfl, rfl, hz, e, q _ _ (Grow.refl H) (.str _)⟩)
    · cases ho
  · obtain ⟨zx, a, vs, rfl, t, r⟩ := hx
    cases hy
    obtain ⟨v, h1, h2⟩ := atI_DRs r ho
    exact .inr (.inl ⟨a, vs, _, v, rfl, rfl, t.sq, h1, q _ _ (Grow.refl H) h2⟩)
  · obtain ⟨zx, a, vs, rfl, t, r⟩ := hx
    cases hy
    obtain ⟨v, h1, h2⟩ := atI_DRs r ho
    exact .inl ⟨a, vs, _, v, rfl, rfl, .inl (.inl t), h1, q _ _ (Grow.refl H) h2⟩
  · obtain ⟨a, rfl, t⟩ := hx
    cases hy
    rename_i l i
    simp only [ixD] at ho
    cases e : atI l i with
    | none => rw [e] at ho; cases ho
    | some c =>
      rw [e] at ho
      cases ho
      exact .inl ⟨a, _, i, .int c, rfl, rfl, t, by rw [atI_map, e]; rfl, q _ _ (Grow.refl H) (.int _)⟩
end
theorem ot_ix : OpT ixD := fun x y d h => by cases x <;> cases y <;> first | exact ⟨rfl, rfl⟩ | cases h
section
variable {X : Cx} {Wx : WX} {a b e : Expr} {pos : Pos}
theorem m_ix {f g : Dn} (ha : PRm X Wx a f) (hb : PRm X Wx b g) (hs : PlainIx b := by exact fun _ _ => rfl) : PEm X Wx (.Subscript a b pos) (fun sl => fBin ixD (f sl) (g sl)) :=
  (pe_ix ix_seq ha hb hs).mimp fun σ H Q h => fBin_go so_ix ot_ix σ H Q h


def cutL {α : Type} (xs : List α) (lo hi : Option Int) : List α := (xs.drop (HT.sIx xs.length 0 lo)).take (HT.sIx xs.length xs.length hi - HT.sIx xs.length 0 lo)
def slD : D → Option Int → Option Int → Option D
  | .tup l, lo, hi => some (.tup (cutL l lo hi))
  | .lst l, lo, hi => some (.lst (cutL l lo hi))
  | .str z, lo, hi => if z.length ≤ sizeLine then some (.str (cutS z lo hi)) else none
  | _, _, _ => none
abbrev On := Ls → M (Option Int)
def intD : D → Option Int
  | .int i => some i
  | _ => none
def fONo : M (Option Int) := M.pure none
def fOSo (x : M D) : M (Option Int) := x.bind fun d => (M.opt (intD d)).bind fun i => M.pure (some i)
def tOm (K : PySem.W.Frag) (mg : Str → Option Value) (Wx : WX) (f : On) : TO := fun σ H Q => ∃ ws B0 sl w, Env K ws B0 sl w σ H ∧ runAt K mg Wx ws B0 sl σ H (f sl w) fun _ _ o H' => Q o H'
abbrev POm (X : Cx) (Wx : WX) (e : Option Expr) (f : On) : Prop := PO X e (tOm X.K X.mg Wx f)
theorem _root_.L2.PO.mimp {X : Cx} {e : Option Expr} {t t' : TO} (h : PO X e t) (f : ∀ σ H Q, t' σ H Q → t σ H Q) : PO X e t' := ⟨fun pins s σ H Q I q => h.run pins s σ H Q I (f _ _ _ q)⟩
theorem mo_none : POm X Wx none (fun _ => fONo) := po_none.mimp fun σ H Q ⟨ws, B0, sl, w, e, h⟩ => runAt.here e h
theorem mo_some {f : Dn} (h : PEm X Wx e f) : POm X Wx (some e) (fun sl => fOSo (f sl)) := by
  refine (po_some h).mimp fun σ H Q ⟨ws, B0, sl, w, e, h⟩ => ?_
  refine ⟨ws, B0, sl, w, e, (runAt.bind h).mono fun ws1 s1 d H1 l1 e1 h1 v hv => ?_⟩
  cases d with
  | int i =>
    cases hv
    exact ⟨i, rfl, runAt.here e1 h1⟩
  | _ => exact h1.elim
def fSl (x : M D) (lo hi : M (Option Int)) : M D := x.bind fun a => lo.bind fun i => hi.bind fun j => M.opt (slD a i j)
def rSlM (K : PySem.W.Frag) : V → Option Int → Option Int → Hp → VK → Prop := fun x lo hi H Q => rSlA K x lo hi H Q ∨ (rSlL K x lo hi H Q ∨ rSlS x lo hi H Q)
theorem sl_M : SlR X (rSlM X.K) := sl_tupA.or (sl_list.or sl_str)
theorem cutL_le {α : Type} {xs : List α} {lo hi : Option Int} {n : Nat} (h : xs.length ≤ n) : (cutL xs lo hi).length ≤ n := by
  unfold cutL
  rw [List.length_take, List.length_drop]
  omega
theorem rdb_sl {x d : D} {lo hi : Option Int} (h : slD x lo hi = some d) : rdb x = true := by cases x <;> first | rfl | cases h
theorem so_sl {K : PySem.W.Frag} {ws : Wa} {B : Addr → Prop} {H : Hp} {x : V} {dx d : D} {lo hi : Option Int} {Q : VK} (hb : ∀ a, B a → H a ≠ none) (hx : DW K ws B H x dx) (ho : slD dx lo hi = some d) (q : ∀ v H', Grow H H' → DR K ws B H' v d → Q v H') : rSlM K x lo hi H Q := by
  cases dx with
  | tup l =>
    obtain ⟨zx, a, vs, rfl, t, r⟩ := hx
    cases ho
    have hl := r.length
    refine .inl ⟨a, vs, rfl, t.sq, fun z => ?_, fun _ p hp => q _ _ (Grow.new hp) (tp_new hb hp (cutL_le zx) ?_)⟩
    · have e : cutL l lo hi = l := by
        unfold cutL
        rw [← hl, z.1, z.2, List.drop_zero, Nat.sub_zero, hl, List.take_length]
      rw [e] at q
      exact q _ _ (Grow.refl H) (.tup zx t r)
    · unfold cutV cutL
      rw [hl]
      exact (r.drop _).take _
  | lst l =>
    obtain ⟨zx, a, vs, rfl, t, r⟩ := hx
    cases ho
    have hl := r.length
    refine .inr (.inl ⟨a, vs, rfl, .inl (.inl t), fun p hp => q _ _ (Grow.new hp) (ls_new hb hp (cutL_le zx) ?_)⟩)
    unfold cutV cutL
    rw [hl]
    exact (r.drop _).take _
  | str z =>
    cases hx
    simp only [slD] at ho
    split at ho
    · rename_i hz
      cases ho
      exact .inr (.inr ⟨z, rfl, hz, q _ _ (Grow.refl H) (.str _)⟩)
    · cases ho
  | _ => cases ho
theorem m_sl {lo hi : Option Expr} {f : Dn} {gl gh : On} {p2 : Pos} (he : PRm X Wx e f) (hl : POm X Wx lo gl) (hh : POm X Wx hi gh) : PEm X Wx (.Subscript e (.Slice lo hi none p2) pos) (fun sl => fSl (f sl) (gl sl) (gh sl)) := by
  refine (pe_slice sl_M he hl hh).mimp fun σ H Q ⟨ws, B0, sl, w, e, h⟩ => ?_
  refine ⟨ws, B0, sl, w, e, (runAt.bind h).mono fun ws1 w1 x H1 l1 e1 h1 v hv => ?_⟩
  refine ⟨ws1, B0, sl, w1, e1, (runAt.bind h1).mono fun ws2 w2 i H2 l2 e2 h2 => ?_⟩
  refine ⟨ws2, B0, sl, w2, e2, (runAt.bind h2).mono fun ws3 w3 j H3 l3 e3 h3 => ?_⟩
  obtain ⟨d, q2, h3⟩ := runAt.opt h3
  exact so_sl e3.bad (e3.rv (RV.le (l2.trans l3) hv) (rdb_sl q2)) q2 fun v' H' g hd => runAt.grow g e3 h3 v' hd


inductive DWs (K : PySem.W.Frag) (ws : Wa) (B : Addr → Prop) (H : Hp) : List V → List D → Prop
  | nil : DWs K ws B H [] []
  | cons {v : V} {vs : List V} {d : D} {ds : List D} : DW K ws B H v d → DWs K ws B H vs ds → DWs K ws B H (v :: vs) (d :: ds)
theorem Env.rvs {K : PySem.W.Frag} {ws : Wa} {B0 : Addr → Prop} {sl : Ls} {w : W} {σ : L2.St} {H : Hp} (e : Env K ws B0 sl w σ H) : ∀ {vs : List V} {ds : List D}, RVs K ws B0 sl σ H vs ds → ds.all rdb = true → DWs K ws (Bad ws B0 sl σ) H vs ds
  | _, _, .nil, h => .nil
  | _, _, .cons h1 hr, h => by
    simp only [List.all_cons, Bool.and_eq_true] at h
    exact .cons (e.rv h1 h.1) (Env.rvs e hr h.2)
def CallT (fn : List D → Option D) : Prop := ∀ ds d, fn ds = some d → ds.all rdb = true
def CallS (K : PySem.W.Frag) (r : List V → Hp → VK → Prop) (fn : List D → Option D) : Prop := ∀ (ws : Wa) (B : Addr → Prop) (H : Hp) (xs : List V) (ds : List D) (d : D) (Q : VK), (∀ a, B a → H a ≠ none) → DWs K ws B H xs ds → fn ds = some d →
  (∀ v H', Grow H H' → DR K ws B H' v d → Q v H') → r xs H Q
def fCB (fn : List D → Option D) (g : M (List D)) : M D := g.bind fun l => M.opt (fn l)
theorem fCB_go {K : PySem.W.Frag} {mg : Str → Option Value} {r : List V → Hp → VK → Prop} {fn : List D → Option D} {g : An} (hs : CallS K r fn) (ht : CallT fn) (σ : L2.St) (H : Hp) (Q : VK) (h : tE K mg Wx (fun sl => fCB fn (g sl)) σ H Q) : tCB r (tAr K mg Wx g) σ H Q := by
  obtain ⟨ws, B0, sl, w, e, h⟩ := h
  refine ⟨ws, B0, sl, w, e, (runAt.bind h).mono fun ws1 w1 ds H1 l1 e1 h1 vs hv => ?_⟩
  obtain ⟨d, q2, h1⟩ := runAt.opt h1
  exact hs ws1 _ H1 vs ds d Q e1.bad (e1.rvs hv (ht _ _ q2)) q2 fun v' H' g hd => runAt.grow g e1 h1 v' hd
variable {es : List Expr} {x : Str} {p : Pos}
theorem m_callB {id : String} {r : List V → Hp → VK → Prop} {fn : List D → Option D} {g : An} (hc : CallR X (.builtin id) r) (hs : CallS X.K r fn) (ht : CallT fn) (hg : Gl X x) (hm : X.mg x = none) (hv : bootBuiltins x = some (.builtin id)) (ha : PArm X Wx (e :: es) g) (hn : x ≠ "__name__" := by decide) (hdb : (x == ("__debug__" : Str)) = false := by decide)
    (he : starEach (e :: es) X.env = (false, eval e X.env) :: starEach es X.env := by rfl) (hpl : (backTo pos (starEach es X.env)).any (·.1) = false := by rfl) : PEm X Wx (.Call (.Name x p) (e :: es) [] pos) (fun sl => fCB fn (g sl)) :=
  (pe_callB hc hg hm hv ha hn hdb he hpl).mimp fun σ H Q h => fCB_go hs ht σ H Q h
theorem m_callTy {T : String} {r : List V → Hp → VK → Prop} {fn : List D → Option D} {g : An} (hc : CallR X (.type T) r) (hs : CallS X.K r fn) (ht : CallT fn) (hg : Gl X x) (hm : X.mg x = none) (hv : bootBuiltins x = some (.type T)) (ha : PArm X Wx (e :: es) g) (hn : x ≠ "__name__" := by decide) (hdb : (x == ("__debug__" : Str)) = false := by decide)
    (he : starEach (e :: es) X.env = (false, eval e X.env) :: starEach es X.env := by rfl) (hpl : (backTo pos (starEach es X.env)).any (·.1) = false := by rfl) : PEm X Wx (.Call (.Name x p) (e :: es) [] pos) (fun sl => fCB fn (g sl)) :=
  (pe_callTy hc hg hm hv ha hn hdb he hpl).mimp fun σ H Q h => fCB_go hs ht σ H Q h
end

def intsOf : List D → Option (List Int)
  | [] => some []
  | .int i :: r => (intsOf r).map (i :: ·)
  | _ => none
@[simp] theorem intsOf_map : ∀ ns : List Int, intsOf (ns.map D.int) = some ns
  | [] => rfl
  | n :: r => by rw [List.map_cons, intsOf, intsOf_map r]; rfl
theorem of_intsOf : ∀ {ds : List D} {ns : List Int}, intsOf ds = some ns → ds = ns.map D.int
  | [], ns, h => by cases h; rfl
  | .int i :: r, ns, h => by
    rw [intsOf] at h
    cases q : intsOf r with
    | none => rw [q] at h; cases h
    | some m => rw [q] at h; cases h; rw [of_intsOf q]; rfl
  | .non :: _, _, h => by cases h
  | .bl _ :: _, _, h => by cases h
  | .str _ :: _, _, h => by cases h
  | .tup _ :: _, _, h => by cases h
  | .lst _ :: _, _, h => by cases h
  | .scr _ :: _, _, h => by cases h
  | .dk _ :: _, _, h => by cases h
  | .dt _ :: _, _, h => by cases h
  | .town :: _, _, h => by cases h
  | .fn _ _ _ :: _, _, h => by cases h
  | .obj _ :: _, _, h => by cases h
def blsOf : List D → Option (List Bool)
  | [] => some []
  | .bl i :: r => (blsOf r).map (i :: ·)
  | _ => none
@[simp] theorem blsOf_map : ∀ ns : List Bool, blsOf (ns.map D.bl) = some ns
  | [] => rfl
  | n :: r => by rw [List.map_cons, blsOf, blsOf_map r]; rfl
theorem of_blsOf : ∀ {ds : List D} {ns : List Bool}, blsOf ds = some ns → ds = ns.map D.bl
  | [], ns, h => by cases h; rfl
  | .bl i :: r, ns, h => by
    rw [blsOf] at h
    cases q : blsOf r with
    | none => rw [q] at h; cases h
    | some m => rw [q] at h; cases h; rw [of_blsOf q]; rfl
  | .non :: _, _, h => by cases h
  | .int _ :: _, _, h => by cases h
  | .str _ :: _, _, h => by cases h
  | .tup _ :: _, _, h => by cases h
  | .lst _ :: _, _, h => by cases h
  | .scr _ :: _, _, h => by cases h
  | .dk _ :: _, _, h => by cases h
  | .dt _ :: _, _, h => by cases h
  | .town :: _, _, h => by cases h
  | .fn _ _ _ :: _, _, h => by cases h
  | .obj _ :: _, _, h => by cases h


def lenF : List D → Option D
  | [.str z] => if z.length ≤ sizeLine then some (.int z.length) else none
  | [.tup l] => some (.int l.length)
  | [.lst l] => some (.int l.length)
  | [.scr l] => some (.int l.length)
  | _ => none
section
variable {K : PySem.W.Frag} {ws : Wa} {B : Addr → Prop} {H : Hp}
theorem one_of {d : D} {xs : List V} (h : DWs K ws B H xs [d]) : ∃ v, xs = [v] ∧ DW K ws B H v d := by
  cases h with
  | cons h1 h2 => cases h2; exact ⟨_, rfl, h1⟩
theorem two_of {d e : D} {xs : List V} (h : DWs K ws B H xs [d, e]) : ∃ v u, xs = [v, u] ∧ DW K ws B H v d ∧ DW K ws B H u e := by
  cases h with
  | cons h1 h2 => obtain ⟨u, rfl, h3⟩ := one_of h2; exact ⟨_, u, rfl, h1, h3⟩
theorem three_of {d e f : D} {xs : List V} (h : DWs K ws B H xs [d, e, f]) : ∃ v u w, xs = [v, u, w] ∧ DW K ws B H v d ∧ DW K ws B H u e ∧ DW K ws B H w f := by
  cases h with
  | cons h1 h2 => obtain ⟨u, w, rfl, h3⟩ := two_of h2; exact ⟨_, u, w, rfl, h1, h3⟩
theorem cs_len : CallS K (fun xs H Q => ∃ x n, xs = [x] ∧ LenV K x H n ∧ Q (.int n) H) lenF := by
  intro ws B H xs ds d Q hb hx ho q
  unfold lenF at ho
  split at ho
  · rename_i z
    obtain ⟨v, rfl, hv⟩ := one_of hx
    split at ho
    · rename_i hz; cases ho; cases hv; exact ⟨_, _, rfl, ⟨hz, rfl⟩, q _ _ (Grow.refl H) (.int _)⟩
    · cases ho
  · obtain ⟨v, rfl, zx, a, vs, rfl, t, r⟩ := one_of hx
    cases ho
    exact ⟨_, vs.length, rfl, .inr ⟨vs, t.sq, rfl⟩, by rw [r.length]; exact q _ _ (Grow.refl H) (.int _)⟩
  · obtain ⟨v, rfl, zx, a, vs, rfl, t, r⟩ := one_of hx
    cases ho
    exact ⟨_, vs.length, rfl, .inl ⟨vs, .inl (.inl t), rfl⟩, by rw [r.length]; exact q _ _ (Grow.refl H) (.int _)⟩
  · rename_i l
    obtain ⟨v, rfl, a, rfl, t⟩ := one_of hx
    cases ho
    exact ⟨_, l.length, rfl, .inl ⟨_, t, by rw [List.length_map]⟩, q _ _ (Grow.refl H) (.int _)⟩
  · cases ho


def absF : List D → Option D
  | [.int i] => some (.int (if i < 0 then -i else i))
  | _ => none
theorem cs_abs : CallS K (fun xs H Q => ∃ i, xs = [.int i] ∧ Q (.int (if i < 0 then -i else i)) H) absF := by
  intro ws B H xs ds d Q hb hx ho q
  unfold absF at ho
  split at ho
  · obtain ⟨v, rfl, hv⟩ := one_of hx
    cases ho; cases hv
    exact ⟨_, rfl, q _ _ (Grow.refl H) (.int _)⟩
  · cases ho
def intF : List D → Option D
  | [.int i] => some (.int i)
  | [.bl b] => some (.int (if b then 1 else 0))
  | _ => none

def sumF : List D → Option D
  | [.lst l] => (intsOf l).map fun ns => .int ns.sum
  | _ => none
theorem cs_sum : CallS K (rSum K) sumF := by
  intro ws B H xs ds d Q hb hx ho q
  unfold sumF at ho
  split at ho
  · rename_i l
    obtain ⟨v, rfl, zx, a, vs, rfl, t, r⟩ := one_of hx
    cases e : intsOf l with
    | none => rw [e] at ho; cases ho
    | some ns =>
      rw [e] at ho; cases ho
      rw [of_intsOf e] at r
      have ev := r.of_ints
      subst ev
      exact ⟨a, ns, rfl, .inl (.inl t), q _ _ (Grow.refl H) (.int _)⟩
  · cases ho
def allF : List D → Option D
  | [.lst l] => (blsOf l).map fun ns => .bl (ns.all id)
  | _ => none
theorem cs_all : CallS K (rAll K) allF := by
  intro ws B H xs ds d Q hb hx ho q
  unfold allF at ho
  split at ho
  · rename_i l
    obtain ⟨v, rfl, zx, a, vs, rfl, t, r⟩ := one_of hx
    cases e : blsOf l with
    | none => rw [e] at ho; cases ho
    | some ns =>
      rw [e] at ho; cases ho
      rw [of_blsOf e] at r
      have ev := r.of_bls
      subst ev
      exact ⟨a, ns, rfl, .inl (.inl t), q _ _ (Grow.refl H) (.bl _)⟩
  · cases ho
def anyF : List D → Option D
  | [.lst l] => (blsOf l).map fun ns => .bl (ns.any id)
  | _ => none

def tupF : List D → Option D
  | [.lst l] => some (.tup l)
  | [.tup l] => some (.tup l)
  | _ => none
theorem cs_tup : CallS K (fun xs H Q => ∃ p ys, xs = [.ref p] ∧ ((SqL K H p ys ∧ ∀ l, H l = none → Q (.ref l) (upd H l (.tup ys))) ∨ (SqT K H p ys ∧ Q (.ref p) H))) tupF := by
  intro ws B H xs ds d Q hb hx ho q
  unfold tupF at ho
  split at ho
  · obtain ⟨v, rfl, zx, a, vs, rfl, t, r⟩ := one_of hx
    cases ho
    exact ⟨a, vs, rfl, .inl ⟨.inl (.inl t), fun p hp => q _ _ (Grow.new hp) (tp_new hb hp zx r)⟩⟩
  · obtain ⟨v, rfl, zx, a, vs, rfl, t, r⟩ := one_of hx
    cases ho
    exact ⟨a, vs, rfl, .inr ⟨t.sq, q _ _ (Grow.refl H) (.tup zx t r)⟩⟩
  · cases ho
def lstF : List D → Option D
  | [.lst l] => some (.lst l)
  | [.tup l] => some (.lst l)
  | _ => none
theorem cs_lst : CallS K (fun xs H Q => ∃ p ys, xs = [.ref p] ∧ (SqL K H p ys ∨ SqT K H p ys) ∧ ∀ l, H l = none → Q (.ref l) (upd H l (.lst ys))) lstF := by
  intro ws B H xs ds d Q hb hx ho q
  unfold lstF at ho
  split at ho
  · obtain ⟨v, rfl, zx, a, vs, rfl, t, r⟩ := one_of hx
    cases ho
    exact ⟨a, vs, rfl, .inl (.inl (.inl t)), fun p hp => q _ _ (Grow.new hp) (ls_new hb hp zx r)⟩
  · obtain ⟨v, rfl, zx, a, vs, rfl, t, r⟩ := one_of hx
    cases ho
    exact ⟨a, vs, rfl, .inr t.sq, fun p hp => q _ _ (Grow.new hp) (ls_new hb hp zx r)⟩
  · cases ho


def bigF (f : Int → Int → Int) : List D → Option D
  | [.int i, .int j] => some (.int (f i j))
  | [.int i, .int j, .int k] => some (.int (f (f i j) k))
  | [.lst l] => (intsOf l).bind fun ns => match ns with | [] => none | n :: r => some (.int (r.foldl f n))
  | [.tup l] => (intsOf l).bind fun ns => match ns with | [] => none | n :: r => some (.int (r.foldl f n))
  | _ => none
def maxF : List D → Option D := bigF max
def minF : List D → Option D := bigF min
def rBig (K : PySem.W.Frag) (f : Int → Int → Int) : List V → Hp → VK → Prop := fun xs H Q =>
  (∃ i j, xs = [.int i, .int j] ∧ Q (.int (f i j)) H) ∨ (∃ i j k, xs = [.int i, .int j, .int k] ∧ Q (.int (f (f i j) k)) H) ∨
  (∃ (a : Addr) (n : Int) (r : List Int), xs = [.ref a] ∧ (SqL K H a ((n :: r).map V.int) ∨ SqT K H a ((n :: r).map V.int)) ∧ Q (.int (r.foldl f n)) H)
theorem cs_big {f : Int → Int → Int} : CallS K (rBig K f) (bigF f) := by
  intro ws B H xs ds d Q hb hx ho q
  unfold bigF at ho
  split at ho
  · obtain ⟨v, u, rfl, hv, hu⟩ := two_of hx
    cases ho; cases hv; cases hu
    exact .inl ⟨_, _, rfl, q _ _ (Grow.refl H) (.int _)⟩
  · obtain ⟨v, u, w, rfl, hv, hu, hw⟩ := three_of hx
    cases ho; cases hv; cases hu; cases hw
    exact .inr (.inl ⟨_, _, _, rfl, q _ _ (Grow.refl H) (.int _)⟩)
  · rename_i l
    obtain ⟨v, rfl, zx, a, vs, rfl, t, r⟩ := one_of hx
    cases e : intsOf l with
    | none => rw [e] at ho; cases ho
    | some ns =>
      rw [e] at ho
      cases ns with
      | nil => cases ho
      | cons n ns =>
        cases ho
        rw [of_intsOf e] at r
        have ev := r.of_ints
        subst ev
        exact .inr (.inr ⟨a, n, ns, rfl, .inl (.inl (.inl t)), q _ _ (Grow.refl H) (.int _)⟩)
  · rename_i l
    obtain ⟨v, rfl, zx, a, vs, rfl, t, r⟩ := one_of hx
    cases e : intsOf l with
    | none => rw [e] at ho; cases ho
    | some ns =>
      rw [e] at ho
      cases ns with
      | nil => cases ho
      | cons n ns =>
        cases ho
        rw [of_intsOf e] at r
        have ev := r.of_ints
        subst ev
        exact .inr (.inr ⟨a, n, ns, rfl, .inr t.sq, q _ _ (Grow.refl H) (.int _)⟩)
  · cases ho
theorem foldl_max_mem : ∀ (r : List Int) (n : Int), r.foldl max n ∈ n :: r ∧ ∀ y ∈ n :: r, y ≤ r.foldl max n
  | [], n => ⟨by simp, by simp⟩
  | m :: r, n => by
    obtain ⟨h1, h2⟩ := foldl_max_mem r (max n m)
    rw [List.foldl_cons]
    refine ⟨?_, fun y hy => ?_⟩
    · rcases List.mem_cons.mp h1 with e | e
      · rw [e]; rcases Int.le_total n m with z | z
        · rw [Int.max_eq_right z]; simp
        · rw [Int.max_eq_left z]; simp
      · exact List.mem_cons_of_mem _ (List.mem_cons_of_mem _ e)
    · have h3 := h2 (max n m) List.mem_cons_self
      rcases List.mem_cons.mp hy with e | hy
      · omega
      · rcases List.mem_cons.mp hy with e | hy
        · omega
        · exact h2 y (List.mem_cons_of_mem _ hy)
end
theorem ct_len : CallT lenF := fun ds d h => by unfold lenF at h; split at h <;> first | rfl | cases h
theorem ct_abs : CallT absF := fun ds d h => by unfold absF at h; split at h <;> first | rfl | cases h
theorem ct_sum : CallT sumF := fun ds d h => by unfold sumF at h; split at h <;> first | rfl | cases h
theorem ct_all : CallT allF := fun ds d h => by unfold allF at h; split at h <;> first | rfl | cases h
theorem ct_tup : CallT tupF := fun ds d h => by unfold tupF at h; split at h <;> first | rfl | cases h
theorem ct_lst : CallT lstF := fun ds d h => by unfold lstF at h; split at h <;> first | rfl | cases h
theorem ct_big {f : Int → Int → Int} : CallT (bigF f) := fun ds d h => by unfold bigF at h; split at h <;> first | rfl | cases h
theorem maxOf_eq (n : Int) : ∀ r : List Int, r.foldl max n = PySem.W.maxOf n r := fun r => by
  unfold PySem.W.maxOf
  congr 1
  funext a y
  show max a y = if decide (a < y) = true then y else a
  by_cases h : a < y
  · rw [decide_eq_true h, if_pos rfl, Int.max_eq_right (by omega)]
  · rw [decide_eq_false h, if_neg Bool.false_ne_true, Int.max_eq_left (by omega)]
section
variable {X : Cx}
theorem call_maxM (hc : X.calm = true) (hu : X.A.units + 64 < cLine) : CallR X (.builtin "max") (rBig X.K max) := by
  intro pins s σ H xs us Q I r h
  rcases h with ⟨i, j, rfl, q⟩ | ⟨i, j, k, rfl, q⟩ | ⟨a, n, rr, rfl, hs, q⟩
  · refine call_max2 hc pins s σ H _ us Q I r ⟨i, j, rfl, ?_⟩
    have : (if j > i then j else i) = max i j := by split <;> omega
    rw [this]; exact q
  · refine call_max3Nu hc pins s σ H _ us Q I r ⟨.int i, .int j, .int k, .int (max (max i j) k), rfl, ?_, q⟩
    have e1 : nuMax2 (.int i) (.int j) = some (.int (max i j)) := by
      show (some (decide (i < j))).map (fun c => if c = true then V.int j else V.int i) = _
      by_cases h : i < j
      · rw [decide_eq_true h, Int.max_eq_right (by omega)]; rfl
      · rw [decide_eq_false h, Int.max_eq_left (by omega)]; rfl
    have e2 : nuMax2 (.int (max i j)) (.int k) = some (.int (max (max i j) k)) := by
      show (some (decide (max i j < k))).map (fun c => if c = true then V.int k else V.int (max i j)) = _
      by_cases h : max i j < k
      · rw [decide_eq_true h, Int.max_eq_right (a := max i j) (by omega)]; rfl
      · rw [decide_eq_false h, Int.max_eq_left (a := max i j) (by omega)]; rfl
    unfold nuMax3
    rw [e1]
    exact e2
  · rcases hs with hs | hs
    · refine cr_max hc pins s σ H _ us Q I r ⟨a, n :: rr, rfl, hs, by simp, fun m h1 h2 => ?_⟩
      obtain ⟨g1, g2⟩ := foldl_max_mem rr n
      have : m = rr.foldl max n := Int.le_antisymm (g2 m h1) (h2 _ g1)
      rw [this]; exact q
    · obtain ⟨its, rv, ht, _⟩ := I.tuple hs
      rw [Vals.ref1 r]
      refine PySem.W.max_tuple_datum (α := Int) (x := n) (xs := rr) (I.ok.hd hc) (show s.heap.IsTuple a its.toArray from ht) (PySem.W.HoldAll.of_ints (by simpa using rv.ints)) (by show X.A.units + 1 + 0 < cLine; omega) fun i v h' tk hv hh hk => ?_
      obtain ⟨tk', rfl⟩ := PySem.W.int_of_holds hh
      exact ⟨.int _, H, I.kept hk, ⟨_, rfl⟩, by rw [← maxOf_eq]; exact q⟩
end
end Pm
namespace Pm
open PySem L2


def tyD : D → Option String
  | .non => some "NoneType"
  | .bl _ => some "bool"
  | .int _ => some "int"
  | .str _ => some "str"
  | .tup _ => some "tuple"
  | .lst _ => some "list"
  | .scr _ => some "list"
  | .dk _ => some "dict"
  | .dt _ => some "dict"
  | _ => none
def isiD (T : String) (d : D) : Option Bool := (tyD d).bind fun a => kitB a T
theorem k_ii : kitB "int" "int" = some true := by decide +kernel
theorem k_ib : kitB "int" "bool" = some false := by decide +kernel
theorem k_it : kitB "int" "tuple" = some false := by decide +kernel
theorem k_is : kitB "int" "str" = some false := by decide +kernel
theorem k_bi : kitB "bool" "int" = some true := by decide +kernel
theorem k_bb : kitB "bool" "bool" = some true := by decide +kernel
theorem k_bt : kitB "bool" "tuple" = some false := by decide +kernel
theorem k_bs : kitB "bool" "str" = some false := by decide +kernel
theorem k_ti : kitB "tuple" "int" = some false := by decide +kernel
theorem k_tb : kitB "tuple" "bool" = some false := by decide +kernel
theorem k_tt : kitB "tuple" "tuple" = some true := by decide +kernel
theorem k_ts : kitB "tuple" "str" = some false := by decide +kernel
theorem k_si : kitB "str" "int" = some false := by decide +kernel
theorem k_sb : kitB "str" "bool" = some false := by decide +kernel
theorem k_st : kitB "str" "tuple" = some false := by decide +kernel
theorem k_ss : kitB "str" "str" = some true := by decide +kernel
theorem k_ni : kitB "NoneType" "int" = some false := by decide +kernel
theorem k_nb : kitB "NoneType" "bool" = some false := by decide +kernel
theorem k_nt : kitB "NoneType" "tuple" = some false := by decide +kernel
theorem k_ns : kitB "NoneType" "str" = some false := by decide +kernel
theorem k_li : kitB "list" "int" = some false := by decide +kernel
theorem k_lb : kitB "list" "bool" = some false := by decide +kernel
theorem k_lt : kitB "list" "tuple" = some false := by decide +kernel
theorem k_ls : kitB "list" "str" = some false := by decide +kernel
def isiInt : D → Bool | .int _ => true | .bl _ => true | _ => false
def isiBool : D → Bool | .bl _ => true | _ => false
def isiTup : D → Bool | .tup _ => true | _ => false
def isiStr : D → Bool | .str _ => true | _ => false
def plainD : D → Bool | .non => true | .bl _ => true | .int _ => true | .str _ => true | .tup _ => true | .lst _ => true | .scr _ => true | _ => false
theorem isi_int {d : D} (h : plainD d = true) : isiD "int" d = some (isiInt d) := by cases d <;> first | exact k_ii | exact k_bi | exact k_ti | exact k_si | exact k_ni | exact k_li | cases h
theorem isi_bool {d : D} (h : plainD d = true) : isiD "bool" d = some (isiBool d) := by cases d <;> first | exact k_ib | exact k_bb | exact k_tb | exact k_sb | exact k_nb | exact k_lb | cases h
theorem isi_tup {d : D} (h : plainD d = true) : isiD "tuple" d = some (isiTup d) := by cases d <;> first | exact k_it | exact k_bt | exact k_tt | exact k_st | exact k_nt | exact k_lt | cases h
theorem isi_str {d : D} (h : plainD d = true) : isiD "str" d = some (isiStr d) := by cases d <;> first | exact k_is | exact k_bs | exact k_ts | exact k_ss | exact k_ns | exact k_ls | cases h

section
variable {K : PySem.W.Frag} {ws : Wa} {B : Addr → Prop} {H : Hp}
theorem ty_of {v : V} {d : D} {a : String} (h : DW K ws B H v d) (ht : tyD d = some a) : TyX K H v (.type a) := by
  cases d with
  | non => cases h; cases ht; exact .base .non
  | bl => cases h; cases ht; exact .base (.bl _)
  | int => cases h; cases ht; exact .base (.int _)
  | str => cases h; cases ht; exact .base (.str _)
  | tup l =>
    obtain ⟨_, a, vs, rfl, t, r⟩ := h
    cases ht
    rcases t with ⟨_, t⟩ | ⟨o, its, n, h1, h2, _⟩ | ⟨_, _, o, t⟩
    · exact .base (.tup t)
    · exact .kTuple h1 h2
    · exact .fTuple t
  | lst l =>
    obtain ⟨_, a, vs, rfl, t, r⟩ := h
    cases ht
    exact .base (.lst t)
  | scr l =>
    obtain ⟨a, rfl, t⟩ := h
    cases ht
    rcases t with (t | ⟨o, t⟩) | ⟨o, its, n, h1, h2, _⟩
    · exact .base (.lst t)
    · exact .base (.frz t)
    · exact .kList h1 h2
  | dk l =>
    obtain ⟨a, kvs, rfl, t, _⟩ := h
    cases ht
    exact .base (.dK t)
  | dt l =>
    obtain ⟨a, kvs, rfl, t, _⟩ := h
    cases ht
    exact .base (.dT t)
  | _ => cases ht
end

def rdb_isi {T : String} {d : D} {b : Bool} (h : isiD T d = some b) : rdb d = true := by cases d <;> first | rfl | cases h
def fIsi (T : String) (x : M D) : M D := x.bind fun d => (M.opt (isiD T d)).bind fun b => M.pure (.bl b)
section
variable {X : Cx} {Wx : WX} {a : Expr} {pos p p' : Pos}
theorem m_isi {T : String} {x : Str} {f : Dn} (ha : PRm X Wx a f) (hm : X.mg "isinstance" = none) (hT : PE X (.Name x p') (tC (.ty T))) (hg : Gl X "isinstance" := by rfl)
    (he : starEach (a :: [.Name x p']) X.env = (false, eval a X.env) :: starEach [.Name x p'] X.env := by rfl) (hpl : (backTo pos (starEach [.Name x p'] X.env)).any (·.1) = false := by rfl)
    (hs : starEach (.Name x p' :: []) X.env = (false, eval (.Name x p') X.env) :: starEach [] X.env := by rfl) : PEm X Wx (.Call (.Name "isinstance" p) [a, .Name x p'] [] pos) (fun sl => fIsi T (f sl)) := by
  refine (pe_callB call_isi hg hm (by decide +kernel) (pa_cons ha (pa_cons hT pa_nil hs) he) (by decide) (by decide) he hpl).mimp fun σ H Q ⟨ws, B0, sl, w, e, h⟩ => ?_
  refine ⟨ws, B0, sl, w, e, (runAt.bind h).mono fun ws1 s1 d H1 l1 e1 h1 v hv => ?_⟩
  cases q2 : isiD T d with
  | none => rw [q2] at h1; exact h1.elim
  | some b =>
    rw [q2] at h1
    cases q3 : tyD d with
    | none => simp [isiD, q3] at q2
    | some t =>
      have q4 : kitB t T = some b := by simpa [isiD, q3] using q2
      exact ⟨v, .ty T, .type t, .type T, b, rfl, .ty T, ty_of (e1.rv hv (rdb_isi q2)) q3, kit_ty q4, runAt.here e1 h1 _ (.bl b)⟩
end


abbrev Kn := Ls → M D
abbrev Sk := Kn → Kn → Kn → Ls → M D
section
variable (K : PySem.W.Frag) (mg : Str → Option Value) (Wx : WX) (ws : Wa) (B0 : Addr → Prop) (sl : Ls) (σ : L2.St) (H : Hp)
structure Ans (r : Rs D) (nx bk ct : Kn) (D0 : Ends) : Prop where
  nb : r ≠ .bad
  nx : ∀ σ' ws' sl' w' H', Le ws (Own sl σ) H ws' (Own sl' σ') H' → Env K ws' B0 sl' w' σ' H' → nx sl' w' = r → D0.nx σ' H'
  bk : ∀ σ' ws' sl' w' H', Le ws (Own sl σ) H ws' (Own sl' σ') H' → Env K ws' B0 sl' w' σ' H' → bk sl' w' = r → D0.bk σ' H'
  ct : ∀ σ' ws' sl' w' H', Le ws (Own sl σ) H ws' (Own sl' σ') H' → Env K ws' B0 sl' w' σ' H' → ct sl' w' = r → D0.ct σ' H'
  rt : ∀ d w', r = .ok d w' → ∀ σ' ws' sl' H' v, Le ws (Own sl σ) H ws' (Own sl' σ') H' → Env K ws' B0 sl' w' σ' H' → DR K ws' (fun a => ws'.has a ∨ B0 a) H' v d → D0.rt v H'
  ex : ∀ c w', r = .ex c w' → ∀ σ' ws' sl' H' C, mg c = some (.ref C) → Le ws (Own sl σ) H ws' (Own sl' σ') H' → Env K ws' B0 sl' w' σ' H' → Wx (.ref C) none σ' H'
end
def tS (K : PySem.W.Frag) (mg : Str → Option Value) (Wx : WX) (b : Sk) : TS := fun D0 σ H => ∃ ws B0 sl w nx bk ct, Env K ws B0 sl w σ H ∧ Ans K mg Wx ws B0 sl σ H (b nx bk ct sl w) nx bk ct D0
abbrev PSm (X : Cx) (Wx : WX) (st : Stmt) (b : Sk) : Prop := PS X st (tS X.K X.mg Wx b)
abbrev PSsm (X : Cx) (Wx : WX) (st : List Stmt) (b : Sk) : Prop := PSs X st (tS X.K X.mg Wx b)
section
variable {K : PySem.W.Frag} {mg : Str → Option Value} {Wx : WX} {ws ws1 : Wa} {B0 : Addr → Prop} {sl sl1 : Ls} {w w1 : W} {σ σ1 : L2.St} {H H1 : Hp} {r : Rs D} {nx bk ct : Kn} {D0 D1 : Ends}
theorem Ans.le (l : Le ws (Own sl σ) H ws1 (Own sl1 σ1) H1) (h : Ans K mg Wx ws B0 sl σ H r nx bk ct D0) : Ans K mg Wx ws1 B0 sl1 σ1 H1 r nx bk ct D0 where
  nb := h.nb
  nx := fun σ' ws' sl' w' H' l' => h.nx σ' ws' sl' w' H' (l.trans l')
  bk := fun σ' ws' sl' w' H' l' => h.bk σ' ws' sl' w' H' (l.trans l')
  ct := fun σ' ws' sl' w' H' l' => h.ct σ' ws' sl' w' H' (l.trans l')
  rt := fun d w' e σ' ws' sl' H' v l' => h.rt d w' e σ' ws' sl' H' v (l.trans l')
  ex := fun c w' e σ' ws' sl' H' C hC l' => h.ex c w' e σ' ws' sl' H' C hC (l.trans l')
theorem Ans.bind {α : Type} {m : M α} {g : α → M D} (h : Ans K mg Wx ws B0 sl σ H (M.bind m g w) nx bk ct D0) : runAt K mg Wx ws B0 sl σ H (m w) (fun ws' w' a H' => Ans K mg Wx ws' B0 sl σ H' (g a w') nx bk ct D0) := by
  unfold M.bind at h
  cases q : m w with
  | ok a w1 => rw [q] at h; exact fun ws1 H1 l1 e1 => Ans.le l1 h
  | ex c w1 => rw [q] at h; exact fun ws' H' C hc l e => h.ex c w1 rfl σ ws' sl H' C hc l e
  | bad => rw [q] at h; exact absurd rfl h.nb
theorem Ans.opt {α : Type} {o : Option α} {g : α → M D} (h : Ans K mg Wx ws B0 sl σ H (M.bind (M.opt o) g w) nx bk ct D0) : ∃ a, o = some a ∧ Ans K mg Wx ws B0 sl σ H (g a w) nx bk ct D0 := by
  cases o with
  | none => exact absurd rfl h.nb
  | some a => exact ⟨a, rfl, h⟩
end
section
variable {X : Cx} {Wx : WX} {st : Stmt} {rest : List Stmt} {e c : Expr} {pos : Pos} {b1 b2 : Sk}
theorem ms_nil : PSsm X Wx [] (fun nx _ _ sl => nx sl) := pss_nil.mimp fun D0 σ H ⟨ws, B0, sl, w, nx, bk, ct, e, h⟩ => h.nx σ ws sl w H (Le.refl _ _ _) e rfl
theorem ms_cons (h1 : PSm X Wx st b1) (h2 : PSsm X Wx rest b2) : PSsm X Wx (st :: rest) (fun nx bk ct sl => b1 (fun sl' => b2 nx bk ct sl') bk ct sl) := by
  refine (pss_cons h1 h2).mimp fun D0 σ H ⟨ws, B0, sl, w, nx, bk, ct, e, h⟩ => ?_
  exact ⟨ws, B0, sl, w, fun sl' => b2 nx bk ct sl', bk, ct, e, h.nb, fun σ' ws' sl' w' H' l' e' q => ⟨ws', B0, sl', w', nx, bk, ct, e', by rw [q]; exact h.le l'⟩, h.bk, h.ct, h.rt, h.ex⟩
theorem ms_one (h1 : PSm X Wx st b1) : PSsm X Wx [st] b1 := pss_one h1
theorem ms_if {cf : Bn} {a b : List Stmt} (hc : PTm X Wx c cf) (ha : PSsm X Wx a b1) (hb : PSsm X Wx b b2) : PSm X Wx (.If c a b pos) (fun nx bk ct sl => fIf (cf sl) (b1 nx bk ct sl) (b2 nx bk ct sl)) := by
  refine (ps_if hc ha hb).mimp fun D0 σ H ⟨ws, B0, sl, w, nx, bk, ct, e, h⟩ => ?_
  refine ⟨ws, B0, sl, w, e, (Ans.bind h).mono fun ws1 w1 k H1 l1 e1 h1 => ?_⟩
  cases k with
  | true => exact ⟨ws1, B0, sl, w1, nx, bk, ct, e1, h1⟩
  | false => exact ⟨ws1, B0, sl, w1, nx, bk, ct, e1, h1⟩
theorem DR.ret {K : PySem.W.Frag} {ws : Wa} {B0 : Addr → Prop} {sl : Ls} {σ : L2.St} {H : Hp} {v : V} {d : D} (h : DR K ws (Bad ws B0 sl σ) H v d) : DR K ws (fun a => ws.has a ∨ B0 a) H v d :=
  h.keep ws.le_refl (fun _ _ e _ => e) fun a z => .inl (z.imp id fun q => .inl q)
theorem DRs.ret {K : PySem.W.Frag} {ws : Wa} {B0 : Addr → Prop} {sl : Ls} {σ : L2.St} {H : Hp} {v : List V} {d : List D} (h : DRs K ws (Bad ws B0 sl σ) H v d) : DRs K ws (fun a => ws.has a ∨ B0 a) H v d :=
  h.keep ws.le_refl (fun _ _ e _ => e) fun a z => .inl (z.imp id fun q => .inl q)
theorem RV.ret {K : PySem.W.Frag} {ws : Wa} {B0 : Addr → Prop} {sl : Ls} {w : W} {σ : L2.St} {H : Hp} {v : V} {d : D} (e : Env K ws B0 sl w σ H) (h : RV K ws B0 sl σ H v d) : DR K ws (fun a => ws.has a ∨ B0 a) H v d := by
  rcases h with ⟨i, h1, h2⟩ | h
  · obtain ⟨a, q1, q2, q3, q4⟩ := e.ow i d h1
    rw [h2] at q1
    cases q1
    have nb : ¬ (ws.has a ∨ B0 a) := fun z => z.elim q3 q4
    cases d <;> first
      | exact q2.elim
      | (obtain ⟨vs, p1, p2, p3⟩ := q2; exact .lst p2 nb p1 p3.ret)
      | (obtain ⟨vs, p1, p2, p3⟩ := q2; exact .dk nb p1 p2 p3.ret)
      | (obtain ⟨vs, p1, p2, p3⟩ := q2; exact .dt nb p1 p2 p3.ret)
  · exact h.ret
theorem ms_ret {f : Dn} (he : PRm X Wx e f) : PSm X Wx (.Return (some e) pos) (fun _ _ _ sl => f sl) := by
  refine (ps_ret he).mimp fun D0 σ H ⟨ws, B0, sl, w, nx, bk, ct, e, h⟩ => ?_
  refine ⟨ws, B0, sl, w, e, ?_⟩
  have h : Ans X.K X.mg Wx ws B0 sl σ H (f sl w) nx bk ct D0 := h
  cases q : f sl w with
  | bad => rw [q] at h; exact absurd rfl h.nb
  | ex c w1 => rw [q] at h; exact fun ws' H' C hc l e => h.ex c w1 rfl σ ws' sl H' C hc l e
  | ok d w1 =>
    rw [q] at h
    exact fun ws' H' l e' v hv => h.rt d w1 rfl σ ws' sl H' v l e' (hv.ret e')
end
section
variable {K : PySem.W.Frag} {ws : Wa} {B0 : Addr → Prop} {sl : Ls} {w : W} {σ : L2.St} {H : Hp} {v : V} {d : D} {i : Nat}
theorem Env.put (e : Env K ws B0 sl w σ H) (hv : DR K ws (Bad ws B0 sl σ) H v d) : Le ws (Own sl σ) H ws (Own (sl.set i (.va d)) (σ.set i (some v))) H ∧ Env K ws B0 (sl.set i (.va d)) w (σ.set i (some v)) H := by
  have hO : ∀ a, Own (sl.set i (.va d)) (σ.set i (some v)) a → Own sl σ a := fun a ⟨j, dj, h1, h2⟩ => by
    rcases get_set h1 with ⟨_, z, _⟩ | ⟨n, h1⟩
    · cases z
    · rw [List.getElem?_set_ne (Ne.symm n)] at h2
      exact ⟨j, dj, h1, h2⟩
  have l : Le ws (Own sl σ) H ws (Own (sl.set i (.va d)) (σ.set i (some v))) H := ⟨ws.le_refl, fun _ h => .inl h, fun a h => .inl (hO a h), fun _ _ h _ _ => h, fun _ h => h⟩
  refine ⟨l, ⟨?_, e.wr, e.bx, e.dom, fun j dj hj => ?_, fun j dj hj => ?_, fun j k dj dk a hj hk ha hb => ?_⟩⟩
  · rw [List.length_set, List.length_set]; exact e.len
  · rcases get_set hj with ⟨rfl, z, hl⟩ | ⟨n, hj⟩
    · cases z
      exact ⟨v, by rw [List.getElem?_set_self (by rw [← e.len]; exact hl)], hv.le l⟩
    · obtain ⟨u, h1, h2⟩ := e.va j dj hj
      exact ⟨u, by rw [List.getElem?_set_ne (Ne.symm n)]; exact h1, h2.le l⟩
  · rcases get_set hj with ⟨rfl, z, hl⟩ | ⟨n, hj⟩
    · cases z
    · obtain ⟨a, h1, h2, h3⟩ := e.ow j dj hj
      refine ⟨a, by rw [List.getElem?_set_ne (Ne.symm n)]; exact h1, ?_, h3⟩
      cases dj <;> first
        | exact h2.elim
        | (obtain ⟨vs, r1, r2, r3⟩ := h2; exact ⟨vs, r1, r2, r3.le l⟩)
  · rcases get_set hj with ⟨rfl, z, _⟩ | ⟨n1, hj⟩
    · cases z
    · rcases get_set hk with ⟨rfl, z, _⟩ | ⟨n2, hk⟩
      · cases z
      · rw [List.getElem?_set_ne (Ne.symm n1)] at ha
        rw [List.getElem?_set_ne (Ne.symm n2)] at hb
        exact e.uq j k dj dk a hj hk ha hb
def ON (K : PySem.W.Frag) (ws : Wa) (B : Addr → Prop) (H : Hp) (o : HO) : D → Prop
  | .lst ds => ∃ vs, o = .lst vs ∧ ds.length ≤ sizeLine ∧ DRs K ws B H vs ds
  | .dk es => ∃ kvs, o = .dK kvs ∧ kvs.map (·.1) = es.map (·.1) ∧ DRs K ws B H (kvs.map (·.2)) (es.map (·.2))
  | .dt es => ∃ kvs, o = .dT kvs ∧ kvs.map (·.1) = es.map (·.1) ∧ DRs K ws B H (kvs.map (·.2)) (es.map (·.2))
  | _ => False
end
end Pm
namespace Pm
open PySem L2


def tF (K : PySem.W.Frag) (mg : Str → Option Value) (Wx : WX) (f : Dn) : TE := fun σ H Q => ∃ ws B0 sl w, Env K ws B0 sl w σ H ∧ runAt K mg Wx ws B0 sl σ H (f sl w) fun ws' _ d H' => ∀ p o, H' p = none → ON K ws' (Bad ws' B0 sl σ) H' o d → Q (.ref p) (upd H' p o)
abbrev PFm (X : Cx) (Wx : WX) (e : Expr) (f : Dn) : Prop := PE X e (tF X.K X.mg Wx f)
section
variable {X : Cx} {Wx : WX} {e : Expr} {es : List Expr} {pos pos' : Pos} {x : Str} {i : Nat}
theorem mf_lst {n : Nat} {g : An} (h : PAm X Wx es g) (hn : Cnt n g) (hz : n ≤ 1000 := by decide) : PFm X Wx (.List es pos) (fun sl => fLst (g sl)) := by
  refine (pe_lst h).mimp fun σ H Q ⟨ws, B0, sl, w, e, h⟩ => ?_
  refine ⟨ws, B0, sl, w, e, ?_⟩
  have h1 := runAt.bind h
  cases q : g sl w with
  | bad => rw [q] at h1; exact h1
  | ex c w1 => rw [q] at h1; exact h1
  | ok ds w1 =>
    rw [q] at h1
    intro ws1 H1 l1 e1 vs hvs
    have h2 := h1 ws1 H1 l1 e1
    have hl := hvs.length
    have hz' : ds.length ≤ sizeLine := by rw [hn _ _ _ _ q]; exact Nat.le_trans hz (by decide)
    exact ⟨by omega, fun p hp => runAt.here e1 h2 p _ hp ⟨_, rfl, hz', hvs⟩⟩
theorem set_go {K : PySem.W.Frag} {mg : Str → Option Value} {f : Dn} (D0 : Ends) (σ : L2.St) (H : Hp) (h : tS K mg Wx (fun nx _ _ sl => (f sl).bind fun d => nx (sl.set i (.va d))) D0 σ H) : tAsg (tE K mg Wx f) (gName i) D0 σ H := by
  obtain ⟨ws, B0, sl, w, nx, bk, ct, e, h⟩ := h
  refine ⟨ws, B0, sl, w, e, (Ans.bind h).mono fun ws1 w1 d H1 l1 e1 h1 v hv => ?_⟩
  obtain ⟨l3, e3⟩ := e1.put (i := i) hv
  exact h1.nx _ _ _ _ _ l3 e3 rfl
theorem ms_set {f : Dn} (hN : X.N.Nodup) (hi : X.N[i]? = some x) (hx : Loc X.env.scope x) (he : PEm X Wx e f) (hs : swapsWith e (some (.Name x pos')) pos.line X.env = pure false := by rfl)
    (hf : X.fn x = true ∨ X.env.scope.names.lookup x = some .local := by first | exact .inl rfl | exact .inr rfl | assumption) : PSm X Wx (.Assign [.Name x pos'] e pos) (fun nx _ _ sl => (f sl).bind fun d => nx (sl.set i (.va d))) :=
  (ps_set hN hi hx he hs hf).mimp fun D0 σ H h => set_go D0 σ H h
end


section
variable {K : PySem.W.Frag} {ws : Wa} {B0 : Addr → Prop} {sl : Ls} {w : W} {σ : L2.St} {H : Hp} {v : V} {d d' : D} {i : Nat} {a p : Addr} {o : HO}
theorem OO.le {ws' : Wa} {sl' : Ls} {σ' : L2.St} {H' : Hp} {b : Addr} {dj : D} (l : Le ws (Own sl σ) H ws' (Own sl' σ') H') (hb : ∀ o, H b = some o → H' b = some o) (h : OO K ws (Bad ws B0 sl σ) H b dj) : OO K ws' (Bad ws' B0 sl' σ') H' b dj := by
  cases dj <;> first
    | exact h.elim
    | (obtain ⟨vs, r1, r2, r3⟩ := h; exact ⟨vs, hb _ r1, r2, r3.le l⟩)
theorem ON.le {ws' : Wa} {sl' : Ls} {σ' : L2.St} {H' : Hp} (l : Le ws (Own sl σ) H ws' (Own sl' σ') H') (h : ON K ws (Bad ws B0 sl σ) H o d) : ON K ws' (Bad ws' B0 sl' σ') H' o d := by
  cases d <;> first
    | exact h.elim
    | (obtain ⟨vs, r1, r2, r3⟩ := h; exact ⟨vs, r1, r2, r3.le l⟩)
theorem ON.oo {B : Addr → Prop} (e : H a = some o) (h : ON K ws B H o d) : OO K ws B H a d := by
  cases d <;> first
    | exact h.elim
    | (obtain ⟨vs, rfl, r2, r3⟩ := h; exact ⟨vs, e, r2, r3⟩)
theorem Env.mutOwn (e : Env K ws B0 sl w σ H) (hi : sl[i]? = some (.ow d)) (ha : σ[i]? = some (some (.ref a))) (ho : ON K ws (Bad ws B0 sl σ) H o d') :
    Le ws (Own sl σ) H ws (Own (sl.set i (.ow d')) σ) (upd H a o) ∧ Env K ws B0 (sl.set i (.ow d')) w σ (upd H a o) := by
  have hil : i < sl.length := (List.getElem?_eq_some_iff.mp hi).1
  have hO : ∀ b, Own (sl.set i (.ow d')) σ b → Own sl σ b := fun b ⟨j, dj, h1, h2⟩ => by
    rcases get_set h1 with ⟨rfl, z, hl⟩ | ⟨n, h1⟩
    · exact ⟨j, d, hi, h2⟩
    · exact ⟨j, dj, h1, h2⟩
  have hOa : Own sl σ a := ⟨i, d, hi, ha⟩
  obtain ⟨a', q1, q2, q3, q4⟩ := e.ow i d hi
  rw [ha] at q1
  cases q1
  have l : Le ws (Own sl σ) H ws (Own (sl.set i (.ow d')) σ) (upd H a o) := by
    refine ⟨ws.le_refl, fun _ h => .inl h, fun b h => .inl (hO b h), fun b u h _ n => ?_, fun b h => ?_⟩
    · rw [upd_ne (fun z => n (by rw [z]; exact hOa))]; exact h
    · by_cases z : b = a
      · subst z; rw [upd_same] at h; cases h
      · rw [upd_ne z] at h; exact h
  have ne : ∀ {b : Addr}, ¬ Own sl σ b → b ≠ a := fun n z => n (by rw [z]; exact hOa)
  refine ⟨l, ⟨by rw [List.length_set]; exact e.len, ?_, e.bx.keep e.dom (fun _ z => .inl z) (fun b u hb z => by rw [upd_ne (fun q => q4 (by rw [← q]; exact hb))]; exact z), fun b h z => e.dom b h (l.ex b z), fun j dj hj => ?_, fun j dj hj => ?_, fun j k dj dk b hj hk hb hc => ?_⟩⟩
  · exact e.wr.upd q3 q2.nx
  · rcases get_set hj with ⟨rfl, z, hl⟩ | ⟨n, hj⟩
    · cases z
    · obtain ⟨u, h1, h2⟩ := e.va j dj hj
      exact ⟨u, h1, h2.le l⟩
  · rcases get_set hj with ⟨rfl, z, hl⟩ | ⟨n, hj⟩
    · cases z
      exact ⟨a, ha, (ho.le l).oo upd_same, q3, q4⟩
    · obtain ⟨b, h1, h2, h3⟩ := e.ow j dj hj
      refine ⟨b, h1, h2.le l fun u hu => ?_, h3⟩
      rw [upd_ne (fun z => n (e.uq j i dj d a hj hi (by rw [← z]; exact h1) ha))]
      exact hu
  · have back : ∀ {q : Nat} {dq : D}, (sl.set i (.ow d'))[q]? = some (.ow dq) → ∃ dr, sl[q]? = some (.ow dr) := fun {q dq} h => by
      rcases get_set h with ⟨rfl, z, hl⟩ | ⟨n, h⟩
      · exact ⟨d, hi⟩
      · exact ⟨dq, h⟩
    obtain ⟨r1, z1⟩ := back hj
    obtain ⟨r2, z2⟩ := back hk
    exact e.uq j k r1 r2 b z1 z2 hb hc
theorem Env.mkTown (e : Env K ws B0 sl w σ H) (q : w.town = none) (hp : H p = none) :
    Le ws (Own sl σ) H ⟨some p, ws.tabs, ws.ob⟩ (Own sl σ) (upd H p (.lst [])) ∧ Env K ⟨some p, ws.tabs, ws.ob⟩ B0 sl ⟨some [], w.objs⟩ σ (upd H p (.lst [])) := by
  obtain ⟨hw, hwt, hwo⟩ := e.wr
  unfold TW at hw
  rw [q] at hw
  cases qa : ws.town with
  | some t => rw [qa] at hw; exact hw.elim
  | none =>
    have g := Grow.new (o := .lst []) hp
    have l : Le ws (Own sl σ) H ⟨some p, ws.tabs, ws.ob⟩ (Own sl σ) (upd H p (.lst [])) := by
      refine ⟨⟨fun a z => ?_, fun _ _ b z => ⟨b, z⟩⟩, fun a z => ?_, fun a z => .inl z, fun a o z _ _ => g a o z, g.ex⟩
      · rw [qa] at z; cases z
      · rcases z with z | z
        · cases z; exact .inr hp
        · exact .inl (.inr z)
    refine ⟨l, ⟨e.len, ?_, e.bx.keep e.dom l.new (fun a o _ z => g a o z), fun a h z => e.dom a h (g.ex a z), fun j dj hj => ?_, fun j dj hj => ?_, e.uq⟩⟩
    · have hg := hwo.grow g
      exact ⟨show upd H p (.lst []) p = some _ from upd_same, hwt.grow g, ⟨hg.len, hg.live, hg.dead, hg.nd, fun a z y => by
        rcases hwo.lv_lst z with ⟨vs, q1⟩ | ⟨_, _, _, q1⟩ | ⟨_, q1⟩ <;> (cases y; rw [hp] at q1; cases q1)⟩⟩
    · obtain ⟨u, h1, h2⟩ := e.va j dj hj
      exact ⟨u, h1, h2.le l⟩
    · obtain ⟨b, h1, h2, h3, h4⟩ := e.ow j dj hj
      refine ⟨b, h1, h2.le l fun u hu => g _ _ hu, fun z => ?_, h4⟩
      rcases z with z | z
      · cases z
        exact h2.there hp
      · exact h3 (.inr z)
theorem Env.mutTown {l l' : List Int} (e : Env K ws B0 sl w σ H) (q : w.town = some l) (ht : ws.town = some a) :
    Le ws (Own sl σ) H ws (Own sl σ) (upd H a (.lst (l'.map V.int))) ∧ Env K ws B0 sl ⟨some l', w.objs⟩ σ (upd H a (.lst (l'.map V.int))) := by
  have ex : ∀ b, upd H a (.lst (l'.map V.int)) b = none → H b = none := fun b h => by
    by_cases z : b = a
    · subst z; rw [upd_same] at h; cases h
    · rw [upd_ne z] at h; exact h
  have le : Le ws (Own sl σ) H ws (Own sl σ) (upd H a (.lst (l'.map V.int))) := by
    refine ⟨ws.le_refl, fun _ h => .inl h, fun _ h => .inl h, fun b u h n _ => ?_, ex⟩
    rw [upd_ne (fun z => n (by rw [z]; exact .inl ht))]; exact h
  have hwr := e.wr
  have hta : H a = some (.lst (l.map V.int)) := by
    have hw := hwr.1
    unfold TW at hw
    rw [q, ht] at hw
    exact hw
  refine ⟨le, ⟨e.len, ?_, e.bx.keep e.dom (fun _ z => .inl z) (fun b u hb z => by rw [upd_ne (fun q => (e.bx b hb).1 (.inl (by rw [q]; exact ht)))]; exact z), fun b h z => e.dom b h (ex b z), fun j dj hj => ?_, fun j dj hj => ?_, e.uq⟩⟩
  · refine ⟨?_, ⟨hwr.2.1, fun p hp => ?_⟩, OB.same (w := w) rfl (hwr.3.keep (fun b xs z => rd_upd (by rw [hta]; trivial) z) fun b o z l => by rw [upd_ne (fun q => hwr.3.nt b l (by rw [q]; exact ht))]; exact z)⟩
    · unfold TW
      simp only [ht]
      exact upd_same
    · obtain ⟨ps, h1, h2, h3⟩ := hwr.2.2 p hp
      refine ⟨ps, by rw [upd_ne (fun z => by rw [z, hta] at h1; cases h1)]; exact h1, h2, fun pos cv ec => ?_⟩
      obtain ⟨c, e1, e2⟩ := h3 pos cv ec
      exact ⟨c, e1, by rw [upd_ne (fun z => by rw [z, hta] at e2; cases e2)]; exact e2⟩
  · obtain ⟨u, h1, h2⟩ := e.va j dj hj
    exact ⟨u, h1, h2.le le⟩
  · obtain ⟨b, h1, h2, h3, h4⟩ := e.ow j dj hj
    refine ⟨b, h1, h2.le le fun u hu => ?_, h3, h4⟩
    rw [upd_ne (fun z => h3 (by rw [z]; exact .inl ht))]
    exact hu
end
end Pm
namespace Pm
open PySem PySem.Spec PyProof.Rows L2


def nOwK (i : Nat) (sl : Ls) (k : D → M D) : M D := match sl[i]? with
  | some (.ow o) => k o
  | _ => M.bad
def lstD : D → Option (List D)
  | .lst l => some l
  | _ => none
def appL (l : List D) (a : D) : Option D := if l.length < sizeLine then some (.lst (l ++ [a])) else none
def fApp (o : D) (x : M D) : M D := (M.opt (lstD o)).bind fun l => x.bind fun a => M.opt (appL l a)
def extL (l : List D) (a : D) : Option D := match a with
  | .lst m => if l.length + m.length ≤ sizeLine then some (.lst (l ++ m)) else none
  | _ => none
def fExt (o : D) (x : M D) : M D := (M.opt (lstD o)).bind fun l => x.bind fun a => M.opt (extL l a)
section
variable {X : Cx} {Wx : WX} {o e : Expr} {es : List Expr} {pos np apos cpos : Pos} {x : Str} {i : Nat} {f : Dn}
theorem nOwK_of {K : PySem.W.Frag} {mg : Str → Option Value} {ws : Wa} {B0 : Addr → Prop} {sl : Ls} {w : W} {σ : L2.St} {H : Hp} {nx bk ct : Kn} {D0 : Ends} {k : D → M D} (h : Ans K mg Wx ws B0 sl σ H (nOwK i sl k w) nx bk ct D0) : ∃ d, sl[i]? = some (.ow d) ∧ Ans K mg Wx ws B0 sl σ H (k d w) nx bk ct D0 := by
  unfold nOwK at h
  cases q : sl[i]? with
  | none => rw [q] at h; exact absurd rfl h.nb
  | some z =>
    rw [q] at h
    cases z with
    | no => exact absurd rfl h.nb
    | va d => exact absurd rfl h.nb
    | ow d => exact ⟨d, rfl, h⟩
theorem ms_act {m : Str} {id : String} {r : V → List V → Hp → VK → Prop} {op : List D → D → Option D} (i : Nat) (slot : Slot "list" m id) (hty : typeOf (.builtin id) = pure (.type "method_descriptor")) (hm : MtR X id r)
    (hop : ∀ {ws : Wa} {B : Addr → Prop} {H : Hp} {a : Addr} {vs : List V} {y : V} {l : List D} {d o' : D} {Q : VK}, H a = some (.lst vs) → DRs X.K ws B H vs l → DR X.K ws B H y d → op l d = some o' → (∀ o, ON X.K ws B H o o' → Q .non (upd H a o)) → r (.ref a) [y] H Q)
    (he : PEm X Wx e f) (hN : X.N[i]? = some x) (hv : Vis X.env.scope x) (hd : (x == ("__debug__" : Str)) = false)
    (hcd : (x == ("__classdict__" : Str)) = false) (hbase : attributeBase (.Name x np) m X.env (eval (.Name x np) X.env) = eval (.Name x np) X.env)
    (hfew : ((backTo cpos (starEach (e :: []) X.env)).all (fun x => !x.1) && (backToKw cpos (keywordEach [] X.env)).all (fun x => x.1.isSome)
      && decide ((e :: ([] : List Expr)).length + ([] : List Keyword).length + (if ([] : List Keyword).isEmpty then 0 else 1) < 30)) = true)
    (hline : (apos.endLine == cpos.line) = true) (hs : starEach (e :: []) X.env = (false, eval e X.env) :: starEach [] X.env) (hplain : (backTo cpos (starEach [] X.env)).any (·.1) = false)
    (hsw : swapsWith (.Call (.Attribute (.Name x np) m apos) [e] [] cpos) none pos.line X.env = pure false) :
    PSm X Wx (.Expr (.Call (.Attribute (.Name x np) m apos) [e] [] cpos) pos) (fun nx _ _ sl => nOwK i sl fun o => ((M.opt (lstD o)).bind fun l => (f sl).bind fun a => M.opt (op l a)).bind fun o' => nx (sl.set i (.ow o'))) := by
  refine (ps_expr (pe_bm PySem.F.plainAttrs_list slot hty hm (pe_var hN hv hd hcd) (pa_cons he pa_nil hs) hbase hfew hline hs hplain) hsw).mimp fun D0 σ H ⟨ws, B0, sl, w, nx, bk, ct, e, h⟩ => ?_
  obtain ⟨d, hd, h2⟩ := nOwK_of h
  rw [bind_assoc] at h2
  obtain ⟨l, hl, h3⟩ := Ans.opt h2
  rw [bind_assoc] at h3
  clear h h2
  cases d <;> first | (cases hl; done) | skip
  cases hl
  obtain ⟨a, q1, ⟨vs, q2, q3, q4⟩, q5⟩ := e.ow i _ hd
  refine ⟨_, q1, .inl ⟨rfl, vs, .inl (.inl q2)⟩, ws, B0, sl, w, e, (Ans.bind h3).mono fun ws1 w1 b H1 l1 e1 h1 v hv => ?_⟩
  obtain ⟨o', ho, h1⟩ := Ans.opt h1
  obtain ⟨a', p1, ⟨us, p2, p3, p4⟩, p5⟩ := e1.ow i _ hd
  rw [q1] at p1
  cases p1
  refine hop p2 p4 hv ho fun o hO => ?_
  obtain ⟨l2, e2⟩ := e1.mutOwn hd q1 hO
  exact h1.nx _ _ _ _ _ l2 e2 rfl
theorem ms_app (i : Nat) (he : PEm X Wx e f) (hN : X.N[i]? = some x := by rfl) (hv : Vis X.env.scope x := by first | exact Or.inl rfl | exact Or.inr (Or.inl rfl) | exact Or.inr (Or.inr rfl)) (hd : (x == ("__debug__" : Str)) = false := by decide)
    (hcd : (x == ("__classdict__" : Str)) = false := by decide) (hbase : attributeBase (.Name x np) "append" X.env (eval (.Name x np) X.env) = eval (.Name x np) X.env := by rfl)
    (hfew : ((backTo cpos (starEach (e :: []) X.env)).all (fun x => !x.1) && (backToKw cpos (keywordEach [] X.env)).all (fun x => x.1.isSome)
      && decide ((e :: ([] : List Expr)).length + ([] : List Keyword).length + (if ([] : List Keyword).isEmpty then 0 else 1) < 30)) = true := by rfl)
    (hline : (apos.endLine == cpos.line) = true := by rfl) (hs : starEach (e :: []) X.env = (false, eval e X.env) :: starEach [] X.env := by rfl) (hplain : (backTo cpos (starEach [] X.env)).any (·.1) = false := by rfl)
    (hsw : swapsWith (.Call (.Attribute (.Name x np) "append" apos) [e] [] cpos) none pos.line X.env = pure false := by rfl) :
    PSm X Wx (.Expr (.Call (.Attribute (.Name x np) "append" apos) [e] [] cpos) pos) (fun nx _ _ sl => nOwK i sl fun o => (fApp o (f sl)).bind fun o' => nx (sl.set i (.ow o'))) :=
  ms_act (op := appL) i PySem.F.slot_list_append PySem.F.type_list_append mt_append (fun {ws B H a vs y l d o' Q} p2 p4 hv ho q => by
    unfold appL at ho
    split at ho
    · rename_i hz
      cases ho
      have hl := p4.length
      exact ⟨a, vs, y, rfl, rfl, p2, by omega, q _ ⟨_, rfl, by simp; omega, p4.append (.one hv)⟩⟩
    · cases ho) he hN hv hd hcd hbase hfew hline hs hplain hsw

def setL (l : List D) (k v : D) : Option D := match k with
  | .int j => (ixN l.length j).map fun n => .lst (l.set n v)
  | _ => none
def fSetI (o : D) (k : M D) (v : D) : M D := (M.opt (lstD o)).bind fun l => k.bind fun j => M.opt (setL l j v)

def iaddD : D → D → Option D
  | .int i, .int j => some (.int (i + j))
  | _, _ => none
def nVaK (i : Nat) (sl : Ls) (k : D → M D) : M D := match sl[i]? with
  | some (.va o) => k o
  | _ => M.bad
theorem nVaK_of {K : PySem.W.Frag} {mg : Str → Option Value} {ws : Wa} {B0 : Addr → Prop} {sl : Ls} {w : W} {σ : L2.St} {H : Hp} {nx bk ct : Kn} {D0 : Ends} {k : D → M D} (h : Ans K mg Wx ws B0 sl σ H (nVaK i sl k w) nx bk ct D0) : ∃ d, sl[i]? = some (.va d) ∧ Ans K mg Wx ws B0 sl σ H (k d w) nx bk ct D0 := by
  unfold nVaK at h
  cases q : sl[i]? with
  | none => rw [q] at h; exact absurd rfl h.nb
  | some z =>
    rw [q] at h
    cases z with
    | no => exact absurd rfl h.nb
    | ow d => exact absurd rfl h.nb
    | va d => exact ⟨d, rfl, h⟩
end


def frz (i : Nat) (sl : Ls) : Ls := match sl[i]? with
  | some (.ow d) => sl.set i (.va d)
  | _ => sl
def setNo : List Nat → Ls → Ls
  | [], sl => sl
  | j :: js, sl => setNo js (sl.set j .no)
section
variable {K : PySem.W.Frag} {ws : Wa} {B0 : Addr → Prop} {sl : Ls} {w : W} {σ : L2.St} {H : Hp} {i : Nat}
theorem Env.drop1 (e : Env K ws B0 sl w σ H) : Le ws (Own sl σ) H ws (Own (sl.set i .no) σ) H ∧ Env K ws B0 (sl.set i .no) w σ H := by
  have hO : ∀ b, Own (sl.set i .no) σ b → Own sl σ b := fun b ⟨j, dj, hj, hb⟩ => by
    rcases get_set hj with ⟨_, z, _⟩ | ⟨_, z⟩
    · cases z
    · exact ⟨j, dj, z, hb⟩
  have l : Le ws (Own sl σ) H ws (Own (sl.set i .no) σ) H := ⟨ws.le_refl, fun _ h => .inl h, fun b h => .inl (hO b h), fun _ _ h _ _ => h, fun _ h => h⟩
  refine ⟨l, ⟨by rw [List.length_set]; exact e.len, e.wr, e.bx, e.dom, fun j dj hj => ?_, fun j dj hj => ?_, fun j k dj dk b hj hk hb hc => ?_⟩⟩
  · rcases get_set hj with ⟨rfl, z, _⟩ | ⟨_, z⟩
    · cases z
    · obtain ⟨u, q1, q2⟩ := e.va j dj z
      exact ⟨u, q1, q2.le l⟩
  · rcases get_set hj with ⟨rfl, z, _⟩ | ⟨_, z⟩
    · cases z
    · obtain ⟨b, q1, q2, q3⟩ := e.ow j dj z
      exact ⟨b, q1, q2.le l fun _ z => z, q3⟩
  · rcases get_set hj with ⟨rfl, z, _⟩ | ⟨_, z1⟩
    · cases z
    · rcases get_set hk with ⟨rfl, z, _⟩ | ⟨_, z2⟩
      · cases z
      · exact e.uq j k dj dk b z1 z2 hb hc
theorem Env.dropAll : ∀ (js : List Nat) {sl : Ls}, Env K ws B0 sl w σ H → Le ws (Own sl σ) H ws (Own (setNo js sl) σ) H ∧ Env K ws B0 (setNo js sl) w σ H
  | [], sl, e => ⟨Le.refl _ _ _, e⟩
  | j :: js, sl, e => by
    obtain ⟨l1, e1⟩ := e.drop1 (i := j)
    obtain ⟨l2, e2⟩ := Env.dropAll js e1
    exact ⟨l1.trans l2, e2⟩
theorem Env.frz (e : Env K ws B0 sl w σ H) : Le ws (Own sl σ) H ws (Own (Pm.frz i sl) σ) H ∧ Env K ws B0 (Pm.frz i sl) w σ H := by
  unfold Pm.frz
  split
  · rename_i d q
    obtain ⟨a, h1, h2, h3, h4⟩ := e.ow i d q
    have hO : ∀ b, Own (sl.set i (.va d)) σ b → Own sl σ b := fun b ⟨j, dj, hj, hb⟩ => by
      rcases get_set hj with ⟨_, z, _⟩ | ⟨_, z⟩
      · cases z
      · exact ⟨j, dj, z, hb⟩
    have l : Le ws (Own sl σ) H ws (Own (sl.set i (.va d)) σ) H := ⟨ws.le_refl, fun _ h => .inl h, fun b h => .inl (hO b h), fun _ _ h _ _ => h, fun _ h => h⟩
    have na : ¬ Bad ws B0 (sl.set i (.va d)) σ a := fun z => by
      rcases z with z | z | ⟨j, dj, hj, hb⟩
      · exact h3 z
      · exact h4 z
      · rcases get_set hj with ⟨_, z, _⟩ | ⟨n, z⟩
        · cases z
        · exact n (e.uq j i dj d a z q hb h1)
    have hD : DR K ws (Bad ws B0 (sl.set i (.va d)) σ) H (.ref a) d := by
      cases d <;> first
        | exact h2.elim
        | (obtain ⟨vs, q1, q2, q3⟩ := h2; exact .lst q2 na q1 (q3.le l))
        | (obtain ⟨vs, q1, q2, q3⟩ := h2; exact .dk na q1 q2 (q3.le l))
        | (obtain ⟨vs, q1, q2, q3⟩ := h2; exact .dt na q1 q2 (q3.le l))
    refine ⟨l, ⟨by rw [List.length_set]; exact e.len, e.wr, e.bx, e.dom, fun j dj hj => ?_, fun j dj hj => ?_, fun j k dj dk b hj hk hb hc => ?_⟩⟩
    · rcases get_set hj with ⟨rfl, z, _⟩ | ⟨_, z⟩
      · cases z; exact ⟨_, h1, hD⟩
      · obtain ⟨u, q1, q2⟩ := e.va j dj z
        exact ⟨u, q1, q2.le l⟩
    · rcases get_set hj with ⟨rfl, z, _⟩ | ⟨_, z⟩
      · cases z
      · obtain ⟨b, q1, q2, q3⟩ := e.ow j dj z
        exact ⟨b, q1, q2.le l fun _ z => z, q3⟩
    · rcases get_set hj with ⟨rfl, z, _⟩ | ⟨_, z1⟩
      · cases z
      · rcases get_set hk with ⟨rfl, z, _⟩ | ⟨_, z2⟩
        · cases z
        · exact e.uq j k dj dk b z1 z2 hb hc
  · exact ⟨Le.refl _ _ _, e⟩
end

abbrev Mf := List D → M D
abbrev Post (ws : Wa) (H : Hp) (ws' : Wa) (H' : Hp) : Prop := Le ws (fun _ => False) H ws' (fun _ => False) H'
def spF (K : PySem.W.Frag) (mg : Str → Option Value) (n : Nat) (m : Mf) : Sp := fun vs H Q E => vs.length = n ∧ ∃ (ws : Wa) (B0 : Addr → Prop) (w : W) (ds : List D), WR K ws w H ∧ BX ws B0 H ∧ (∀ a, B0 a → H a ≠ none) ∧ DRs K ws (fun a => ws.has a ∨ B0 a) H vs ds ∧
  (match m ds w with
  | .ok d w' => ∀ v ws' H', Post ws H ws' H' → WR K ws' w' H' → DR K ws' (fun a => ws'.has a ∨ B0 a) H' v d → Q v H'
  | .ex c w' => ∀ ws' H' C, mg c = some (.ref C) → Post ws H ws' H' → WR K ws' w' H' → E (.ref C) none H'
  | .bad => False)
def fCall (m : Mf) (g : M (List D)) : M D := g.bind m
section
variable {K : PySem.W.Frag} {ws ws' : Wa} {B0 : Addr → Prop} {sl : Ls} {w w' : W} {σ : L2.St} {H H' : Hp}
theorem Env.bxs (e : Env K ws B0 sl w σ H) : BX ws (fun a => B0 a ∨ Own sl σ a) H := fun a z => by
  rcases z with z | ⟨i, d, h1, h2⟩
  · exact e.bx a z
  · obtain ⟨b, q1, q2, q3, q4⟩ := e.ow i d h1
    rw [h2] at q1
    cases q1
    exact ⟨q3, q2.nx⟩
theorem Post.le (p : Post ws H ws' H') (O : Addr → Prop) : Le ws O H ws' O H' := ⟨p.wle, p.new, fun _ h => .inl h, fun a o h1 h2 _ => p.keep a o h1 h2 (fun z => z), p.ex⟩
theorem Env.after (e : Env K ws B0 sl w σ H) (p : Post ws H ws' H') (hw : WR K ws' w' H') : Le ws (Own sl σ) H ws' (Own sl σ) H' ∧ Env K ws' B0 sl w' σ H' := by
  have l : Le ws (Own sl σ) H ws' (Own sl σ) H' := p.le (Own sl σ)
  refine ⟨l, ⟨e.len, hw, e.bx.keep e.dom p.new (fun a o hb z => p.keep a o z (e.bx a hb).1 (fun z => z)), fun a h z => e.dom a h (p.ex a z), fun j dj hj => ?_, fun j dj hj => ?_, e.uq⟩⟩
  · obtain ⟨u, h1, h2⟩ := e.va j dj hj
    exact ⟨u, h1, h2.le l⟩
  · obtain ⟨b, h1, h2, h3, h4⟩ := e.ow j dj hj
    refine ⟨b, h1, h2.le l fun u hu => p.keep b u hu h3 (fun z => z), fun z => ?_, h4⟩
    rcases p.new b z with q | q
    · exact h3 q
    · exact h2.there q
end
section
variable {X : Cx} {Wx : WX} {e : Expr} {es : List Expr} {pos p : Pos} {x : Str}
theorem fCall_go {K : PySem.W.Frag} {mg : Str → Option Value} {m : Mf} {g : An} {n : Nat} (hn : Cnt n g) (σ : L2.St) (H : Hp) (Q : VK) (h : tE K mg Wx (fun sl => fCall m (g sl)) σ H Q) : tCallS (spF K mg n m) (WE Wx) (tA K mg Wx g) σ H Q := by
  obtain ⟨ws, B0, sl, w, e, h⟩ := h
  refine ⟨ws, B0, sl, w, e, ?_⟩
  have h1 := runAt.bind h
  cases qg : g sl w with
  | bad => rw [qg] at h1; exact h1
  | ex c w1 => rw [qg] at h1; exact h1
  | ok ds w1 =>
    rw [qg] at h1
    intro ws1 H1 l1 e1 vs hvs
    have h2 : runAt K mg Wx ws1 B0 sl σ H1 (m ds w1) _ := h1 ws1 H1 l1 e1
    have hl := hvs.length
    refine ⟨by rw [hl]; exact hn _ _ _ _ qg, ws1, fun a => B0 a ∨ Own sl σ a, w1, ds, e1.wr, e1.bxs, fun a z => e1.bad a (.inr z), hvs, ?_⟩
    cases q : m ds w1 with
    | bad => rw [q] at h2; exact h2
    | ok d w' =>
      rw [q] at h2
      intro v ws' H' po hw hd
      obtain ⟨l3, e3⟩ := e1.after po hw
      exact h2 ws' H' l3 e3 v hd
    | ex c w' =>
      rw [q] at h2
      intro ws' H' C hC po hw
      obtain ⟨l3, e3⟩ := e1.after po hw
      exact h2 ws' H' C hC l3 e3
theorem m_call {m : Mf} {g : An} {k : Nat} {f : Addr} {fd : FuncData} {ps : List Str} (F : FnOk X.prog X.w X.K X.mg X.base (L2.CX X.prog X.w) k f fd ps (spF X.K X.mg ps.length m)) (hn : Cnt ps.length g) (hr : Room k X.A) (hm : X.mg x = some (.ref f)) (hk : PySem.W.keepIn X.K (.ref f) = true) (hb : Binds X.K fd ps []) (tk : Takes X Wx) (ha : PAm X Wx (e :: es) g)
    (hg : Gl X x := by rfl) (hdb : (x == ("__debug__" : Str)) = false := by decide) (he : starEach (e :: es) X.env = (false, eval e X.env) :: starEach es X.env := by rfl) (hpl : (backTo pos (starEach es X.env)).any (·.1) = false := by rfl) :
    PEm X Wx (.Call (.Name x p) (e :: es) [] pos) (fun sl => fCall m (g sl)) :=
  (pe_callS F hr hg hm hk hb (fun σ => passAt tk σ) ha hdb he hpl).mimp fun σ H Q h => fCall_go hn σ H Q h
end


def slStart (n : Nat) (ds : List D) : Ls := ds.map Sl.va ++ List.replicate (n - ds.length) .no
def runB (b : Sk) (n : Nat) (ds : List D) : M D := b (fun _ => M.pure .non) (fun _ => M.bad) (fun _ => M.bad) (slStart n ds)
theorem getElem?_start {α : Type} {xs : List α} {n i : Nat} {β : Type} {f : α → β} {z y : β} (h : (xs.map f ++ List.replicate n z)[i]? = some y) : (∃ x, xs[i]? = some x ∧ y = f x) ∨ y = z := by
  by_cases hi : i < xs.length
  · rw [List.getElem?_append_left (by simpa using hi), List.getElem?_map] at h
    cases e : xs[i]? with
    | none => rw [e] at h; cases h
    | some x => rw [e] at h; exact .inl ⟨x, rfl, (Option.some.inj h).symm⟩
  · rw [List.getElem?_append_right (by simpa using hi), List.getElem?_replicate] at h
    split at h
    · exact .inr (Option.some.inj h).symm
    · cases h
theorem env_start {K : PySem.W.Frag} {ws : Wa} {B0 : Addr → Prop} {w : W} {vs : List V} {ds : List D} {H : Hp} {N : List Str} (hw : WR K ws w H) (hbx : BX ws B0 H) (hd : ∀ a, B0 a → H a ≠ none) (r : DRs K ws (fun a => ws.has a ∨ B0 a) H vs ds) :
    (∀ a, ¬ Own (slStart N.length ds) (L2.start N vs) a) ∧ Env K ws B0 (slStart N.length ds) w (L2.start N vs) H := by
  have hl := r.length
  have noOw : ∀ (i : Nat) (d : D), (slStart N.length ds)[i]? ≠ some (.ow d) := fun i d h => by
    rcases getElem?_start h with ⟨x, _, z⟩ | z <;> cases z
  have nO : ∀ a, ¬ Own (slStart N.length ds) (L2.start N vs) a := fun a ⟨i, d, h, _⟩ => noOw i d h
  refine ⟨nO, ⟨by simp [L2.start, slStart, hl], hw, hbx, hd, fun i d h => ?_, fun i d h => absurd h (noOw i d), fun i j d e a h => absurd h (noOw i d)⟩⟩
  rcases getElem?_start h with ⟨x, hx, z⟩ | z
  · cases z
    obtain ⟨v, h1, h2⟩ := r.get hx
    have hi : i < vs.length := (List.getElem?_eq_some_iff.mp h1).1
    refine ⟨v, ?_, h2.keep ws.le_refl (fun _ _ e _ => e) fun a z => ?_⟩
    · unfold L2.start
      rw [List.getElem?_append_left (by simpa using hi), List.getElem?_map, h1]
      rfl
    · rcases z with z | z | z
      · exact .inl (.inl z)
      · exact .inl (.inr z)
      · exact absurd z (nO a)
  · cases z
section
variable {P : Program} {w : World} {K : PySem.W.Frag} {mg : Str → Option Value} {base : Heap}
end


section
variable {X : Cx} {Wx : WX} {pos p pos' : Pos} {x : Str} {C : Addr} {bmB : List Value} {B newId initId : String}
theorem pmk_own0 (F : ExcBaseFacts B newId initId bmB) (q : PySem.W.excIn X.K C bmB newId = true) (gC : X.mg x = some (.ref C)) (kC : PySem.W.keepIn X.K (.ref C) = true) (r : Raises X (.ref C)) (hg : Gl X x)
    (hdb : (x == ("__debug__" : Str)) = false := by decide) : PMk X (.Call (.Name x p) [] [] pos) (fun _ H Q => Q (.ref C) none H) := by
  intro pins s σ H Q I h
  refine wpAny_Call_Name_kw (ld_glob I hg gC ?_ hdb)
  refine PySem.W.callWith_K0 I.kIn kC ?_
  obtain ⟨bm, N, nm, qn, bs, hdct, sn, sub, ab, col, dd, k0, k1, k2, k3, k5, mN, hC, hN, hni, T⟩ := exc_obj I.kIn q
  refine wpAny_call_exc_subT F T hC hN hni (fun h' e hm => ?_) (by show 0 ≤ sizeLine; exact Nat.zero_le _)
  exact mk_of I hm r h (I.hok.gone hm.new)
theorem ms_raise (F : ExcBaseFacts B newId initId bmB) (q : PySem.W.excIn X.K C bmB newId = true) (gC : X.mg x = some (.ref C)) (kC : PySem.W.keepIn X.K (.ref C) = true) (r : Raises X (.ref C)) (tk : Takes X Wx) (hc : X.calm = true := by rfl) (hg : Gl X x := by rfl)
    (hdb : (x == ("__debug__" : Str)) = false := by decide) : PSm X Wx (.Raise (some (.Call (.Name x p) [] [] pos)) none pos') (fun _ _ _ _ => M.raise x) := by
  refine (ps_raise hc tk (pmk_own0 F q gC kC r hg hdb)).mimp fun D0 σ H ⟨ws, B0, sl, w, nx, bk, ct, e, h⟩ => ?_
  exact h.ex x w rfl σ ws sl H C gC (Le.refl _ _ _) e
end
end Pm
namespace Pm
open PySem PySem.Spec PyProof.Rows L2


def JOk (K : PySem.W.Frag) (ws : Wa) (B : Addr → Prop) (J : It) (items : List D) (H : Hp) : Prop :=
  ∀ i, (∀ d, items[i]? = some d → J.go i H ∧ ∀ x H', J.yld i H x H' → Grow H H' ∧ DR K ws B H' x d) ∧ (items.length ≤ i → J.stop i H)
def tIm (K : PySem.W.Frag) (mg : Str → Option Value) (Wx : WX) (f : An) : TI := fun σ H R => ∃ ws B0 sl w, Env K ws B0 sl w σ H ∧ runAt K mg Wx ws B0 sl σ H (f sl w) fun ws1 _ items H1 =>
  ∀ J, items.length ≤ sizeLine → (∀ ws' (B' : Addr → Prop) H', ws1.le ws' → (∀ a o, H1 a = some o → ¬ Bad ws1 B0 sl σ a → H' a = some o) → (∀ a, B' a → Bad ws1 B0 sl σ a ∨ H1 a = none) → (∀ a, B' a → H' a ≠ none) → JOk K ws' B' J items H') → R J H1
abbrev PIm (X : Cx) (Wx : WX) (tg iter : Expr) (f : An) : Prop := PI X tg iter (tIm X.K X.mg Wx f)
theorem _root_.L2.PI.mimp {X : Cx} {tg e : Expr} {t t' : TI} (h : PI X tg e t) (f : ∀ σ H Q, t' σ H Q → t σ H Q) : PI X tg e t' := ⟨fun pins s σ H Q I q => h.run pins s σ H Q I (f _ _ _ q)⟩
theorem _root_.L2.PI.orm {X : Cx} {tg e : Expr} {t t' : TI} (h : PI X tg e t) (h' : PI X tg e t') : PI X tg e (fun σ H R => t σ H R ∨ t' σ H R) := ⟨fun pins s σ H Q I q => q.elim (h.run pins s σ H Q I) (h'.run pins s σ H Q I)⟩
def itemsD : D → Option (List D)
  | .tup l => some l
  | .lst l => some l
  | .scr l => if l.length ≤ sizeLine then some (l.map D.int) else none
  | .str x => if x.cps.toList.length ≤ sizeLine then some (x.cps.toList.map fun c => .str ⟨#[c]⟩) else none
  | _ => none
def fItems (x : M D) : M (List D) := x.bind fun d => M.opt (itemsD d)
section
variable {K : PySem.W.Frag} {ws ws' : Wa} {B0 B' : Addr → Prop} {sl sl' : Ls} {σ σ' : L2.St} {H H' : Hp}
theorem bad_more (hB : ∀ a, B' a → B0 a ∨ H a = none) (l : Le ws (Own sl σ) H ws' (Own sl' σ') H') : ∀ a, Bad ws' B' sl' σ' a → Bad ws B0 sl σ a ∨ H a = none := fun a h => by
  rcases h with h | h | h
  · exact (l.new a h).imp .inl id
  · exact (hB a h).imp (fun z => .inr (.inl z)) id
  · exact (l.own a h).imp (fun z => .inr (.inr z)) id
theorem DR.more {v : V} {d : D} (hB : ∀ a, B' a → B0 a ∨ H a = none) (l : Le ws (Own sl σ) H ws' (Own sl' σ') H') (h : DR K ws (Bad ws B0 sl σ) H v d) : DR K ws' (Bad ws' B' sl' σ') H' v d := h.keep l.wle l.kp (bad_more hB l)
theorem DRs.more {v : List V} {d : List D} (hB : ∀ a, B' a → B0 a ∨ H a = none) (l : Le ws (Own sl σ) H ws' (Own sl' σ') H') (h : DRs K ws (Bad ws B0 sl σ) H v d) : DRs K ws' (Bad ws' B' sl' σ') H' v d := h.keep l.wle l.kp (bad_more hB l)
theorem jok_tup {B : Addr → Prop} {a : Addr} {vs : List V} {l : List D} (h : SqT K H a vs) (r : DRs K ws B H vs l) : JOk K ws B (Itt K a) l H := fun i => by
  refine ⟨fun d hd => ?_, fun hi => ⟨vs, h, by rw [r.length]; exact hi⟩⟩
  obtain ⟨v, h1, h2⟩ := r.get hd
  refine ⟨⟨vs, v, h, h1⟩, fun x H' hy => ?_⟩
  obtain ⟨rfl, hy⟩ := hy
  have := hy vs h
  rw [h1] at this
  cases this
  exact ⟨Grow.refl _, h2⟩
theorem jok_lst {B : Addr → Prop} {a : Addr} {vs : List V} {l : List D} (h : SqL K H a vs) (r : DRs K ws B H vs l) : JOk K ws B (Itl K a) l H := fun i => by
  refine ⟨fun d hd => ?_, fun hi => ⟨vs, h, by rw [r.length]; exact hi⟩⟩
  obtain ⟨v, h1, h2⟩ := r.get hd
  refine ⟨⟨vs, v, h, h1⟩, fun x H' hy => ?_⟩
  obtain ⟨rfl, hy⟩ := hy
  have := hy vs h
  rw [h1] at this
  cases this
  exact ⟨Grow.refl _, h2⟩
theorem jok_str {B : Addr → Prop} (x : Str) : JOk K ws B (Its x) (x.cps.toList.map fun c => .str ⟨#[c]⟩) H := fun i => by
  refine ⟨fun d hd => ?_, fun hi => (show x.cps.size ≤ i by simpa using hi)⟩
  rw [List.getElem?_map] at hd
  cases q : x.cps.toList[i]? with
  | none => rw [q] at hd; cases hd
  | some c =>
    rw [q] at hd
    cases hd
    have hi : i < x.cps.size := by have := (List.getElem?_eq_some_iff.mp q).1; simpa using this
    refine ⟨hi, fun y H' hy => ?_⟩
    obtain ⟨rfl, c', h1, rfl⟩ := hy
    have e : x.cps[i]? = some c := by rw [← Array.getElem?_toList]; exact q
    rw [e] at h1
    cases h1
    exact ⟨Grow.refl _, .str _⟩
theorem jok_rng {B : Addr → Prop} (lo c : Int) (n : Nat) : JOk K ws B (Itc lo c n) ((List.range n).map fun k => .int (lo + (k : Nat) * c)) H := fun i => by
  refine ⟨fun d hd => ?_, fun hi => (show n ≤ i by simpa using hi)⟩
  rw [List.getElem?_map] at hd
  cases q : (List.range n)[i]? with
  | none => rw [q] at hd; cases hd
  | some k =>
    rw [q] at hd
    cases hd
    obtain ⟨h1, h2⟩ := List.getElem?_eq_some_iff.mp q
    simp at h1 h2
    subst h2
    refine ⟨h1, fun y H' hy => ?_⟩
    obtain ⟨rfl, rfl⟩ := hy
    exact ⟨Grow.refl _, .int _⟩
end
section
variable {X : Cx} {Wx : WX} {tg e a b c : Expr} {pos p : Pos}
theorem mi_of {f : Dn} (he : PEm X Wx e f) : PIm X Wx tg e (fun sl => fItems (f sl)) := by
  refine (((pi_list he).orm (pi_tup he)).orm (pi_str he)).mimp fun σ H R ⟨ws, B0, sl, w, e, h⟩ => ?_
  have h : runAt X.K X.mg Wx ws B0 sl σ H (M.bind (f sl) (fun d => M.opt (itemsD d)) w) _ := h
  unfold M.bind at h
  cases q : f sl w with
  | bad => rw [q] at h; exact h.elim
  | ex c w1 =>
    refine .inl (.inl ⟨ws, B0, sl, w, e, ?_⟩)
    rw [q] at h ⊢
    exact h
  | ok d w1 =>
    rw [q] at h
    simp only at h
    obtain ⟨items, hi, h⟩ := runAt.opt h
    have go : ∀ (k : Wa → W → D → Hp → Prop), (∀ ws1 H1, Le ws (Own sl σ) H ws1 (Own sl σ) H1 → Env X.K ws1 B0 sl w1 σ H1 → k ws1 w1 d H1) → runAt X.K X.mg Wx ws B0 sl σ H (f sl w) k := fun k hk => by
      rw [q]
      exact fun ws1 H1 l1 e1 => hk ws1 H1 l1 e1
    cases d with
    | tup l =>
      cases hi
      refine .inl (.inr ⟨ws, B0, sl, w, e, go _ fun ws1 H1 l1 e1 v hv => ?_⟩)
      cases hv with
      | tup z t r => exact ⟨_, rfl, ⟨_, t.sq⟩, h ws1 H1 l1 e1 _ z fun ws' B' H' hw hk hB hd => jok_tup (Tp.keep hk hB t).sq (r.keep hw hk hB)⟩
    | lst l =>
      cases hi
      refine .inl (.inl ⟨ws, B0, sl, w, e, go _ fun ws1 H1 l1 e1 v hv => ?_⟩)
      cases hv with
      | lst z n t r => exact ⟨_, rfl, ⟨_, .inl (.inl t)⟩, h ws1 H1 l1 e1 _ z fun ws' B' H' hw hk hB hd => jok_lst (.inl (.inl (hk _ _ t n))) (r.keep hw hk hB)⟩
    | scr l =>
      simp only [itemsD] at hi
      split at hi
      · rename_i hz
        cases hi
        refine .inl (.inl ⟨ws, B0, sl, w, e, go _ fun ws1 H1 l1 e1 v hv => ?_⟩)
        cases hv with
        | scr _ t => exact ⟨_, rfl, ⟨_, t.sq⟩, h ws1 H1 l1 e1 _ (by rw [List.length_map]; exact hz) fun ws' B' H' hw hk hB hd => jok_lst (Lp.keep hk hB t).sq (DRs.ints _)⟩
      · cases hi
    | str x =>
      simp only [itemsD] at hi
      split at hi
      · rename_i hz
        cases hi
        refine .inr ⟨ws, B0, sl, w, e, go _ fun ws1 H1 l1 e1 v hv => ?_⟩
        cases hv
        exact ⟨x, rfl, h ws1 H1 l1 e1 _ (by rw [List.length_map]; exact hz) fun ws' B' H' hw hk hB hd => jok_str x⟩
      · cases hi
    | _ => cases hi

def rngA (j : Int) : Option (List D) := if j.toNat ≤ sizeLine ∧ -(2 ^ 62) ≤ j then some ((List.range j.toNat).map fun (k : Nat) => .int k) else none
def rngB (i j : Int) : Option (List D) := if (j - i).toNat ≤ sizeLine ∧ -(2 ^ 62) ≤ i ∧ i < 2 ^ 62 ∧ -(2 ^ 62) ≤ j ∧ j < 2 ^ 62 then some ((List.range (j - i).toNat).map fun (k : Nat) => .int (i + k)) else none
def rngC (i j c : Int) : Option (List D) := if c ≠ 0 ∧ c.natAbs < 1073741824 ∧ Builtin.Range.small i j c = true ∧ (Builtin.Range.rangeSize i j c).toNat ≤ sizeLine then some ((List.range (Builtin.Range.rangeSize i j c).toNat).map fun (k : Nat) => .int (i + k * c)) else none
def rngF : List D → Option (List D)
  | [.int j] => rngA j
  | [.int i, .int j] => rngB i j
  | [.int i, .int j, .int c] => rngC i j c
  | _ => none
def fRng (g : M (List D)) : M (List D) := g.bind fun l => M.opt (rngF l)
theorem itr_itc (lo : Int) (n : Nat) : Itr lo n = Itc lo 1 n := by
  unfold Itr Itc
  congr 1
  funext i H x H'
  simp
theorem mi_range1 {g : An} (hm : X.mg "range" = none) (ha : PAm X Wx [a] g) (hn : Cnt 1 g) (hg : Gl X "range" := by rfl) (hs : starEach [a] X.env = [(false, eval a X.env)] := by rfl) : PIm X Wx tg (.Call (.Name "range" p) [a] [] pos) (fun sl => fRng (g sl)) := by
  refine (pi_range1 hg hm ha hs).mimp fun σ H R ⟨ws, B0, sl, w, e, h⟩ => ?_
  refine ⟨ws, B0, sl, w, e, ?_⟩
  have h1 := runAt.bind h
  cases qg : g sl w with
  | bad => rw [qg] at h1; exact h1
  | ex c w1 => rw [qg] at h1; exact h1
  | ok ds w1 =>
    rw [qg] at h1
    intro ws1 H1 l1 e1 vs hv
    obtain ⟨items, hi, h2⟩ := runAt.opt (h1 ws1 H1 l1 e1)
    have hl := hn _ _ _ _ qg
    match ds, hl, hi, hv with
    | [.int j], _, hi, .cons (.int _) .nil =>
      have hi : rngA j = some items := hi
      unfold rngA at hi
      split at hi
      · rename_i hc
        cases hi
        have hz := hc.1
        refine ⟨j, rfl, hc.2, by have : sizeLine < 2 ^ 62 := by decide
                                 omega, ?_⟩
        rw [itr_itc]
        refine runAt.here e1 h2 _ (by simpa using hz) fun ws' B' H' hw hk hB hd => ?_
        have := jok_rng (K := X.K) (ws := ws') (B := B') (H := H') 0 1 j.toNat
        simpa using this
      · cases hi
end


def zipL : List D → List D → List D
  | x :: xs, y :: ys => .tup [x, y] :: zipL xs ys
  | _, _ => []
theorem zipL_eq : ∀ (xs ys : List D), zipL xs ys = (xs.zip ys).map fun p => .tup [p.1, p.2]
  | [], _ => rfl
  | _ :: _, [] => rfl
  | x :: xs, y :: ys => by simp [zipL, zipL_eq xs ys]
theorem zipL_get {xs ys : List D} {i : Nat} {d : D} (h : (zipL xs ys)[i]? = some d) : ∃ x y, xs[i]? = some x ∧ ys[i]? = some y ∧ d = .tup [x, y] := by
  induction xs generalizing ys i with
  | nil => simp [zipL] at h
  | cons x xs ih =>
    cases ys with
    | nil => simp [zipL] at h
    | cons y ys =>
      cases i with
      | zero => simp [zipL] at h; exact ⟨x, y, rfl, rfl, h.symm⟩
      | succ i => simpa using ih (by simpa [zipL] using h)
theorem zipL_len (xs ys : List D) : (zipL xs ys).length = min xs.length ys.length := by rw [zipL_eq, List.length_map, List.length_zip]
def zipD : D → D → Option (List D)
  | .tup a, .tup b => some (zipL a b)
  | .lst a, .lst b => some (zipL a b)
  | .lst a, .scr b => some (zipL a (b.map D.int))
  | .scr a, .lst b => some (zipL (a.map D.int) b)
  | _, _ => none
section
variable {K : PySem.W.Frag} {ws : Wa} {B : Addr → Prop} {H : Hp}
theorem dr_pair {T : Addr} {x y : V} {dx dy : D} (hT : H T = none) (hb : ∀ a, B a → H a ≠ none) (hx : DR K ws B H x dx) (hy : DR K ws B H y dy) : DR K ws B (upd H T (.tup [x, y])) (.ref T) (.tup [dx, dy]) :=
  .tup (by show 2 ≤ sizeLine; decide) (.inl ⟨fun z => hb T z hT, upd_same⟩) (.cons (hx.grow (Grow.new hT)) (.cons (hy.grow (Grow.new hT)) .nil))
theorem jok_zipT {a b : Addr} {xs ys : List V} {l m : List D} (hb : ∀ a, B a → H a ≠ none) (h : SqT K H a xs) (r : DRs K ws B H xs l) (h' : SqT K H b ys) (r' : DRs K ws B H ys m) : JOk K ws B (RZ.ItzT K a b) (zipL l m) H := fun i => by
  refine ⟨fun d hd => ?_, fun hi => ⟨xs, ys, h, h', ?_⟩⟩
  · obtain ⟨x, y, h1, h2, rfl⟩ := zipL_get hd
    obtain ⟨v, q1, q2⟩ := r.get h1
    obtain ⟨u, q3, q4⟩ := r'.get h2
    refine ⟨⟨xs, ys, v, u, h, h', q1, q3⟩, fun z H' hy => ?_⟩
    obtain ⟨T, x', y', rfl, hT, rfl, f1, f2⟩ := hy
    have e1 := f1 xs h
    have e2 := f2 ys h'
    rw [q1] at e1
    rw [q3] at e2
    cases e1
    cases e2
    exact ⟨Grow.new hT, dr_pair hT hb q2 q4⟩
  · rw [zipL_len] at hi
    rw [r.length, r'.length]
    omega
theorem jok_zipL {a b : Addr} {xs ys : List V} {l m : List D} (hb : ∀ a, B a → H a ≠ none) (h : SqL K H a xs) (r : DRs K ws B H xs l) (h' : SqL K H b ys) (r' : DRs K ws B H ys m) : JOk K ws B (Itz K a b) (zipL l m) H := fun i => by
  refine ⟨fun d hd => ?_, fun hi => ⟨xs, ys, h, h', ?_⟩⟩
  · obtain ⟨x, y, h1, h2, rfl⟩ := zipL_get hd
    obtain ⟨v, q1, q2⟩ := r.get h1
    obtain ⟨u, q3, q4⟩ := r'.get h2
    refine ⟨⟨xs, ys, v, u, h, h', q1, q3⟩, fun z H' hy => ?_⟩
    obtain ⟨T, x', y', rfl, hT, rfl, f1, f2⟩ := hy
    have e1 := f1 xs h
    have e2 := f2 ys h'
    rw [q1] at e1
    rw [q3] at e2
    cases e1
    cases e2
    exact ⟨Grow.new hT, dr_pair hT hb q2 q4⟩
  · rw [zipL_len] at hi
    rw [r.length, r'.length]
    omega
def lstOf : D → Option (List D)
  | .lst l => some l
  | .scr l => some (l.map D.int)
  | _ => none
theorem dr_lst {v : V} {d : D} {l : List D} (h : DR K ws B H v d) (hl : lstOf d = some l) : ∃ a vs, v = .ref a ∧ Lp K B H a vs ∧ DRs K ws B H vs l := by
  cases h with
  | lst _ n h r => cases hl; exact ⟨_, _, rfl, .inl ⟨n, .inl h⟩, r⟩
  | scr ns h => cases hl; exact ⟨_, _, rfl, h, DRs.ints ns⟩
  | _ => cases hl
theorem zipD_cases {x y : D} {l : List D} (h : zipD x y = some l) : (∃ a b, x = .tup a ∧ y = .tup b ∧ l = zipL a b) ∨ ∃ a b, lstOf x = some a ∧ lstOf y = some b ∧ l = zipL a b := by
  unfold zipD at h
  split at h <;> cases h
  · exact .inl ⟨_, _, rfl, rfl, rfl⟩
  · exact .inr ⟨_, _, rfl, rfl, rfl⟩
  · exact .inr ⟨_, _, rfl, rfl, rfl⟩
  · exact .inr ⟨_, _, rfl, rfl, rfl⟩
end
def fZip (g : M (List D)) : M (List D) := g.bind fun l => match l with
  | [x, y] => M.opt (zipD x y)
  | _ => M.bad
section
variable {X : Cx} {Wx : WX} {a b c : Expr} {pos p tpos : Pos} {elts : List Expr} {kk : Nat}
theorem mi_zip {g : An} (hm : X.mg "zip" = none) (ha : PAm X Wx [a, b] g) (hg : Gl X "zip" := by rfl)
    (hs : starEach [a, b] X.env = (false, eval a X.env) :: starEach [b] X.env := by rfl) (hpl : (backTo pos (starEach [b] X.env)).any (·.1) = false := by rfl) : PIm X Wx (.Tuple elts kk tpos) (.Call (.Name "zip" p) [a, b] [] pos) (fun sl => fZip (g sl)) := by
  refine (RZ.pi_zipA hg hm ha hs hpl).mimp fun σ H R ⟨ws, B0, sl, w, e, h⟩ => ?_
  refine ⟨ws, B0, sl, w, e, (runAt.bind h).mono fun ws1 w1 ds H1 l1 e1 h1 vs hv => ?_⟩
  match ds, h1, hv with
  | [x, y], h2, .cons rx (.cons ry .nil) =>
    obtain ⟨l, q, h2⟩ := runAt.opt h2
    rcases zipD_cases q with ⟨xs, ys, rfl, rfl, rfl⟩ | ⟨xs, ys, hx, hy, rfl⟩
    · cases rx with
      | tup z1 t1 r1 =>
        cases ry with
        | tup z2 t2 r2 =>
          exact ⟨_, _, _, _, rfl, .inr ⟨t1.sq, t2.sq, runAt.here e1 h2 _ (by rw [zipL_len]; omega) fun ws' B' H' hw hk hB hd => jok_zipT hd (Tp.keep hk hB t1).sq (r1.keep hw hk hB) (Tp.keep hk hB t2).sq (r2.keep hw hk hB)⟩⟩
    · obtain ⟨a1, vs1, rfl, t1, r1⟩ := dr_lst rx hx
      obtain ⟨a2, vs2, rfl, t2, r2⟩ := dr_lst ry hy
      have hz : (zipL xs ys).length ≤ sizeLine := by
        rw [zipL_len]
        cases rx with
        | lst z _ _ _ => cases hx; omega
        | scr _ _ =>
          cases ry with
          | lst z _ _ _ => cases hy; omega
          | scr _ _ => cases q
          | _ => cases hy
        | _ => cases hx
      exact ⟨_, _, _, _, rfl, .inl ⟨t1.sq, t2.sq, runAt.here e1 h2 _ hz fun ws' B' H' hw hk hB hd => jok_zipL hd (Lp.keep hk hB t1).sq (r1.keep hw hk hB) (Lp.keep hk hB t2).sq (r2.keep hw hk hB)⟩⟩
end
end Pm
namespace Pm
open PySem PySem.Spec PyProof.Rows L2


abbrev Gk := (β : Type) → D → (Ls → M β) → Ls → M β
abbrev Gks := (β : Type) → List D → (Ls → M β) → Ls → M β
def Out (ts : List Nat) (σ σ' : L2.St) : Prop := σ'.length = σ.length ∧ ∀ j, j ∉ ts → σ'[j]? = σ[j]?
def OutS (ts : List Nat) (sl sl' : Ls) : Prop := ∀ j, j ∉ ts → sl'[j]? = sl[j]?
def tGm (K : PySem.W.Frag) (ts : List Nat) (p : Gk) : TG := fun v σ H Q => ∃ ws B0 sl w d, ∃ (β : Type) (nx : Ls → M β), Env K ws B0 sl w σ H ∧ DR K ws (Bad ws B0 sl σ) H v d ∧ p β d nx sl w ≠ .bad ∧
  ∀ σ' ws' sl' w' H', Out ts σ σ' → OutS ts sl sl' → Le ws (Own sl σ) H ws' (Own sl' σ') H' → Env K ws' B0 sl' w' σ' H' → nx sl' w' = p β d nx sl w → Q σ' H'
def tGsm (K : PySem.W.Frag) (ts : List Nat) (p : Gks) : TGs := fun vs σ H Q => ∃ ws B0 sl w ds, ∃ (β : Type) (nx : Ls → M β), Env K ws B0 sl w σ H ∧ DRs K ws (Bad ws B0 sl σ) H vs ds ∧ p β ds nx sl w ≠ .bad ∧
  ∀ σ' ws' sl' w' H', Out ts σ σ' → OutS ts sl sl' → Le ws (Own sl σ) H ws' (Own sl' σ') H' → Env K ws' B0 sl' w' σ' H' → nx sl' w' = p β ds nx sl w → Q σ' H'
abbrev PGm (X : Cx) (tg : Expr) (ts : List Nat) (p : Gk) : Prop := PG X tg (tGm X.K ts p)
abbrev PGsm (X : Cx) (tg : List Expr) (ts : List Nat) (p : Gks) : Prop := PGs X tg (tGsm X.K ts p)
theorem _root_.L2.PG.mimp {X : Cx} {tg : Expr} {t t' : TG} (h : PG X tg t) (f : ∀ v σ H Q, t' v σ H Q → t v σ H Q) : PG X tg t' := ⟨fun pins s σ H v u Q I r q => h.run pins s σ H v u Q I r (f _ _ _ _ q)⟩
theorem _root_.L2.PGs.mimp {X : Cx} {tg : List Expr} {t t' : TGs} (h : PGs X tg t) (f : ∀ v σ H Q, t' v σ H Q → t v σ H Q) : PGs X tg t' := ⟨fun pins s σ H v u Q I r q => h.run pins s σ H v u Q I r (f _ _ _ _ q)⟩
def pTup (n : Nat) (q : Gks) : Gk := fun β d nx sl => match d with
  | .tup l => if l.length = n then q β l nx sl else M.bad
  | _ => M.bad
section
variable {X : Cx} {e e1 e2 e3 e4 : Expr} {es : List Expr} {pos : Pos} {x : Str} {i : Nat}
theorem Out.refl (ts : List Nat) (σ : L2.St) : Out ts σ σ := ⟨rfl, fun _ _ => rfl⟩
theorem Out.trans {ts us : List Nat} {σ σ' σ'' : L2.St} (a : Out ts σ σ') (b : Out us σ' σ'') : Out (ts ++ us) σ σ'' := ⟨b.1.trans a.1, fun j h => by
  simp only [List.mem_append, not_or] at h
  rw [b.2 j h.2, a.2 j h.1]⟩
theorem mgn (i : Nat) (hN : X.N.Nodup) (hi : X.N[i]? = some x := by rfl) (hx : L2.Loc X.env.scope x := by first | exact Or.inl rfl | exact Or.inr rfl) (hf : X.fn x = true ∨ X.env.scope.names.lookup x = some .local := by first | exact .inl rfl | exact .inr rfl) : PGm X (.Name x pos) [i] (fun β d nx sl => nx (sl.set i (.va d))) := by
  refine (pg_name hN hi hx hf).mimp fun v σ H Q ⟨ws, B0, sl, w, d, β, nx, e, r, nb, h⟩ => ?_
  obtain ⟨l, e'⟩ := e.put (i := i) r
  exact h _ _ _ _ _ ⟨List.length_set, fun j hj => List.getElem?_set_ne (fun z => hj (by simp [z]))⟩ (fun j hj => List.getElem?_set_ne (fun z => hj (by simp [z]))) l e' rfl
theorem mgs_nil : PGsm X [] [] (fun β ds nx sl => match ds with | [] => nx sl | _ => M.bad) := by
  refine pgs_nil.mimp fun vs σ H Q ⟨ws, B0, sl, w, ds, β, nx, e, r, nb, h⟩ => ?_
  cases r with
  | nil => exact ⟨rfl, h _ _ _ _ _ (Out.refl _ _) (fun _ _ => rfl) (Le.refl _ _ _) e rfl⟩
  | cons _ _ => exact absurd rfl nb
theorem mgs_cons {p : Gk} {q : Gks} {ts us : List Nat} (h1 : PGm X e ts p) (h2 : PGsm X es us q) (hs : (assignEach (e :: es) X.env).map (·.2) = assign e X.env :: (assignEach es X.env).map (·.2) := by rfl) : PGsm X (e :: es) (ts ++ us) (fun β ds nx sl => match ds with | d :: r => p β d (fun sl1 => q β r nx sl1) sl | [] => M.bad) := by
  refine (pgs_cons h1 h2 hs).mimp fun vs σ H Q ⟨ws, B0, sl, w, ds, β, nx, e, r, nb, h⟩ => ?_
  cases r with
  | nil => exact absurd rfl nb
  | @cons v vs d ds r1 r2 =>
    have nb : p β d (fun sl1 => q β ds nx sl1) sl w ≠ .bad := nb
    refine ⟨v, vs, rfl, ws, B0, sl, w, d, β, _, e, r1, nb, fun σ1 ws1 sl1 w1 H1 o1 u1 l1 e1 z1 => ?_⟩
    refine ⟨ws1, B0, sl1, w1, ds, β, nx, e1, r2.le l1, by rw [z1]; exact nb, fun σ2 ws2 sl2 w2 H2 o2 u2 l2 e2 z2 => ?_⟩
    exact h σ2 ws2 sl2 w2 H2 (o1.trans o2) (fun j hj => by
      simp only [List.mem_append, not_or] at hj
      rw [u2 j hj.2, u1 j hj.1]) (l1.trans l2) e2 (z2.trans z1)
theorem mg_tup {q : Gks} {ts : List Nat} {n k : Nat} (hc : X.calm = true) (h : PGsm X es ts q) (hn : (assignEach es X.env).length = n) (hst : (assignEach es X.env).findIdx? (·.1) = none) : PGm X (.Tuple es k pos) ts (pTup n q) := by
  refine (pg_tup hc h hn hst).mimp fun v σ H Q ⟨ws, B0, sl, w, d, β, nx, e, r, nb, h⟩ => ?_
  cases r with
  | tup z t r =>
    unfold pTup at nb h
    simp only at nb h
    split at nb
    · rename_i hl
      rw [if_pos hl] at h
      exact ⟨_, _, rfl, t.sq, by rw [r.length]; exact hl, ws, B0, sl, w, _, β, nx, e, r, nb, h⟩
    · exact absurd rfl nb
  | _ => exact absurd rfl nb

def fU2 {β : Type} (d : D) (k : D → D → M β) : M β := match d with
  | .tup [a, b] => k a b
  | _ => M.bad
def fU3 {β : Type} (d : D) (k : D → D → D → M β) : M β := match d with
  | .tup [a, b, c] => k a b c
  | _ => M.bad
def fU4 {β : Type} (d : D) (k : D → D → D → D → M β) : M β := match d with
  | .tup [a, b, c, e] => k a b c e
  | _ => M.bad
theorem mg_tup2 {p1 p2 : Gk} {t1 t2 : List Nat} {k : Nat} (hc : X.calm = true) (h1 : PGm X e1 t1 p1) (h2 : PGm X e2 t2 p2) (hn : (assignEach [e1, e2] X.env).length = 2 := by rfl) (hst : (assignEach [e1, e2] X.env).findIdx? (·.1) = none := by rfl)
    (hs1 : (assignEach [e1, e2] X.env).map (·.2) = assign e1 X.env :: (assignEach [e2] X.env).map (·.2) := by rfl) (hs2 : (assignEach [e2] X.env).map (·.2) = assign e2 X.env :: (assignEach [] X.env).map (·.2) := by rfl) :
    PGm X (.Tuple [e1, e2] k pos) (t1 ++ (t2 ++ [])) (fun β d nx sl => fU2 d fun a b => p1 β a (fun sl => p2 β b nx sl) sl) := by
  have := mg_tup (k := k) (pos := pos) hc (mgs_cons h1 (mgs_cons h2 mgs_nil hs2) hs1) hn hst
  refine (congrArg (fun p => PGm X (.Tuple [e1, e2] k pos) (t1 ++ (t2 ++ [])) p) ?_).mp this
  funext β d nx sl
  unfold pTup fU2
  cases d <;> try rfl
  rename_i l
  match l with
  | [] => rfl
  | [_] => rfl
  | [_, _] => rfl
  | _ :: _ :: _ :: _ => simp
theorem mg_tup3 {p1 p2 p3 : Gk} {t1 t2 t3 : List Nat} {k : Nat} (hc : X.calm = true) (h1 : PGm X e1 t1 p1) (h2 : PGm X e2 t2 p2) (h3 : PGm X e3 t3 p3) (hn : (assignEach [e1, e2, e3] X.env).length = 3 := by rfl) (hst : (assignEach [e1, e2, e3] X.env).findIdx? (·.1) = none := by rfl)
    (hs1 : (assignEach [e1, e2, e3] X.env).map (·.2) = assign e1 X.env :: (assignEach [e2, e3] X.env).map (·.2) := by rfl) (hs2 : (assignEach [e2, e3] X.env).map (·.2) = assign e2 X.env :: (assignEach [e3] X.env).map (·.2) := by rfl) (hs3 : (assignEach [e3] X.env).map (·.2) = assign e3 X.env :: (assignEach [] X.env).map (·.2) := by rfl) :
    PGm X (.Tuple [e1, e2, e3] k pos) (t1 ++ (t2 ++ (t3 ++ []))) (fun β d nx sl => fU3 d fun a b c => p1 β a (fun sl => p2 β b (fun sl => p3 β c nx sl) sl) sl) := by
  have := mg_tup (k := k) (pos := pos) hc (mgs_cons h1 (mgs_cons h2 (mgs_cons h3 mgs_nil hs3) hs2) hs1) hn hst
  refine (congrArg (fun p => PGm X (.Tuple [e1, e2, e3] k pos) (t1 ++ (t2 ++ (t3 ++ []))) p) ?_).mp this
  funext β d nx sl
  unfold pTup fU3
  cases d <;> try rfl
  rename_i l
  match l with
  | [] => rfl
  | [_] => rfl
  | [_, _] => rfl
  | [_, _, _] => rfl
  | _ :: _ :: _ :: _ :: _ => simp
end


section
variable {X : Cx} {Wx : WX} {e tg iter c : Expr} {pos : Pos} {body : List Stmt}
theorem ms_asg {f : Dn} {p : Gk} {ts : List Nat} (he : PEm X Wx e f) (hg : PGm X tg ts p) (hs : swapsWithSole [tg] e pos.line X.env = pure false := by rfl) (hw : swappedStores [tg] e X.env = pure none := by rfl)
    (h1 : (assignEach [tg] X.env).map (·.2) = [assign tg X.env] := by rfl) : PSm X Wx (.Assign [tg] e pos) (fun nx _ _ sl => (f sl).bind fun d => p D d nx sl) := by
  refine (ps_asg he hg hs hw h1).mimp fun D0 σ H ⟨ws, B0, sl, w, nx, bk, ct, e, h⟩ => ?_
  refine ⟨ws, B0, sl, w, e, (Ans.bind h).mono fun ws1 w1 d H1 l1 e1 h1 v hv => ?_⟩
  exact ⟨ws1, B0, sl, w1, d, D, nx, e1, hv, h1.nb, fun σ' ws' sl' w' H' o _ l e' q => h1.nx σ' ws' sl' w' H' l e' q⟩


def forK (js : List Nat) (p : Gk) (b : Sk) : List D → Kn → Kn
  | [], nx => fun sl => nx sl
  | x :: xs, nx => fun sl => p D x (fun sl1 => b (fun sl2 => forK js p b xs nx (setNo js sl2)) (fun sl2 => nx (setNo js sl2)) (fun sl2 => forK js p b xs nx (setNo js sl2)) sl1) sl
theorem ms_for0 {it : An} {p : Gk} {b : Sk} {ts : List Nat} (js : List Nat) (hp : PassesOwn (model X.prog X.w) X.A X.env X.xe) (hi : PIm X Wx tg iter it) (hg : PGm X tg ts p) (hb : PSsm X Wx body b) (hc : X.calm = true := by rfl) (hs : ∀ x, foldedSetIterable iter X.env x = pure x := by intro _; rfl) :
    PSm X Wx (.For tg iter body [] pos) (fun nx _ _ sl => (it sl).bind fun xs => forK js p b xs nx (setNo js sl)) := by
  refine (ps_for hp hc hi hg hb hs).mimp fun D0 σ H ⟨ws, B0, sl, w, nx, bk, ct, e, h⟩ => ?_
  refine ⟨ws, B0, sl, w, e, (Ans.bind h).mono fun ws1 w1 items H1 l1 e1 h1 J hz hJ => ?_⟩
  obtain ⟨l0, e0⟩ := e1.dropAll js
  generalize hr : forK js p b items nx (setNo js sl) w1 = r at h1
  refine ⟨fun i m σ' H' => m = items.length - i ∧ ∃ ws' sl' w', Le ws1 (Own sl σ) H1 ws' (Own sl' σ') H' ∧ Env X.K ws' B0 sl' w' σ' H' ∧ forK js p b (items.drop i) nx sl' w' = r,
    ⟨items.length, rfl, ws1, _, w1, l0, e0, hr⟩, ?_⟩
  rintro i m σ' H' ⟨rfl, ws', sl', w', l, e', h'⟩
  have hj := hJ ws' (Bad ws' B0 sl' σ') H' l.wle l.kp l.bad e'.bad i
  by_cases hi : i < items.length
  · have hd : items[i]? = some items[i] := by simp [hi]
    have hdr : items.drop i = items[i] :: items.drop (i + 1) := (List.drop_eq_getElem_cons hi)
    rw [hdr] at h'
    obtain ⟨hgo, hy⟩ := hj.1 _ hd
    refine .inr ⟨hgo, _, fun σ2 H2 z => z, fun x H2 hyl => ?_⟩
    obtain ⟨gr, hx⟩ := hy x H2 hyl
    unfold forK at h'
    refine ⟨ws', B0, sl', w', items[i], D, _, e'.grow gr, hx, by rw [h']; exact h1.nb, fun σ2 ws2 sl2 w2 H3 o2 _ l2 e2 z2 => ?_⟩
    have l02 := (gr.le ws' (Own sl' σ')).trans l2
    rw [h'] at z2
    have lall := l.trans l02
    have nxt : ∀ {σ3 ws3 sl3 w3 H4}, Le ws2 (Own sl2 σ2) H3 ws3 (Own sl3 σ3) H4 → Env X.K ws3 B0 sl3 w3 σ3 H4 → forK js p b (items.drop (i + 1)) nx (setNo js sl3) w3 = r → ∃ m', m' < items.length - i ∧ m' = items.length - (i + 1) ∧ ∃ ws' sl' w', Le ws1 (Own sl σ) H1 ws' (Own sl' σ3) H4 ∧ Env X.K ws' B0 sl' w' σ3 H4 ∧ forK js p b (items.drop (i + 1)) nx sl' w' = r := fun {σ3 ws3 sl3 w3 H4} l3 e3 q => by
      obtain ⟨l4, e4⟩ := e3.dropAll js
      exact ⟨items.length - (i + 1), by omega, rfl, ws3, _, w3, (lall.trans l3).trans l4, e4, q⟩
    refine ⟨ws2, B0, sl2, w2, _, _, _, e2, ⟨by rw [z2]; exact h1.nb, ?_, ?_, ?_, ?_, ?_⟩⟩
    · intro σ3 ws3 sl3 w3 H4 l3 e3 q
      exact nxt l3 e3 (q.trans z2)
    · intro σ3 ws3 sl3 w3 H4 l3 e3 q
      obtain ⟨l4, e4⟩ := e3.dropAll js
      exact h1.nx σ3 ws3 _ w3 H4 ((lall.trans l3).trans l4) e4 (q.trans z2)
    · intro σ3 ws3 sl3 w3 H4 l3 e3 q
      exact nxt l3 e3 (q.trans z2)
    · intro d w3 q σ3 ws3 sl3 H4 v l3 e3 hv
      exact h1.rt d w3 (z2.symm.trans q) σ3 ws3 sl3 H4 v (lall.trans l3) e3 hv
    · intro c w3 q σ3 ws3 sl3 H4 C hC l3 e3
      exact h1.ex c w3 (z2.symm.trans q) σ3 ws3 sl3 H4 C hC (lall.trans l3) e3
  · refine .inl ⟨hj.2 (by omega), ?_⟩
    rw [List.drop_of_length_le (by omega)] at h'
    exact h1.nx σ' ws' sl' w' H' l e' h'
def fFor {σ α : Type} (body : D → σ → (σ → M α) → M α) : List D → σ → (σ → M α) → M α
  | [], st, k => k st
  | x :: xs, st, k => body x st fun st' => fFor body xs st' k
theorem forK_eq {ε τ : Type} {js : List Nat} {p : Gk} {b : Sk} {enc : ε → τ → Ls} {bodyF : ε → D → τ → (τ → M D) → M D}
    (heq : ∀ e x st (k kb : Kn), p D x (fun sl1 => b (fun sl2 => k (setNo js sl2)) (fun sl2 => kb (setNo js sl2)) (fun sl2 => k (setNo js sl2)) sl1) (enc e st) = bodyF e x st fun st' => k (enc e st')) (e : ε) (nx : Kn) : ∀ (xs : List D) (st : τ), forK js p b xs nx (enc e st) = fFor (bodyF e) xs st fun st' => nx (enc e st')
  | [], st => rfl
  | x :: xs, st => by
    unfold forK fFor
    rw [heq e x st (fun sl => forK js p b xs nx sl) nx]
    congr 1
    funext st'
    exact forK_eq heq e nx xs st'
def nVw {ε τ : Type} (vw : Ls → Option (ε × τ)) (sl : Ls) (k : ε → τ → M D) : M D := match vw sl with
  | some (e, st) => k e st
  | none => M.bad
theorem ms_eqv {st : Stmt} {b b' : Sk} (h : PSm X Wx st b) (hb : ∀ nx bk ct sl w, b' nx bk ct sl w = .bad ∨ b nx bk ct sl w = b' nx bk ct sl w) : PSm X Wx st b' := by
  refine h.mimp fun D0 σ H ⟨ws, B0, sl, w, nx, bk, ct, e, h⟩ => ?_
  rcases hb nx bk ct sl w with q | q
  · exact absurd q h.nb
  · exact ⟨ws, B0, sl, w, nx, bk, ct, e, by rw [q]; exact h⟩
theorem ms_for {ε τ : Type} {it : An} {p : Gk} {b : Sk} {ts : List Nat} (js : List Nat) (enc : ε → τ → Ls) (vw : Ls → Option (ε × τ)) (bodyF : ε → D → τ → (τ → M D) → M D) (hp : PassesOwn (model X.prog X.w) X.A X.env X.xe) (hi : PIm X Wx tg iter it) (hg : PGm X tg ts p) (hb : PSsm X Wx body b)
    (heq : ∀ e x st (k kb : Kn), p D x (fun sl1 => b (fun sl2 => k (setNo js sl2)) (fun sl2 => kb (setNo js sl2)) (fun sl2 => k (setNo js sl2)) sl1) (enc e st) = bodyF e x st fun st' => k (enc e st'))
    (hv : ∀ sl e st, vw sl = some (e, st) → sl = enc e st) (hc : X.calm = true := by rfl) (hs : ∀ x, foldedSetIterable iter X.env x = pure x := by intro _; rfl) :
    PSm X Wx (.For tg iter body [] pos) (fun nx _ _ sl => nVw vw (setNo js sl) fun e st => (it sl).bind fun xs => fFor (bodyF e) xs st fun st' => nx (enc e st')) := by
  refine ms_eqv (ms_for0 js hp hi hg hb hc hs) fun nx bk ct sl w => ?_
  unfold nVw
  cases q : vw (setNo js sl) with
  | none => exact .inl rfl
  | some z =>
    obtain ⟨e, st⟩ := z
    refine .inr ?_
    simp only
    congr 2
    funext xs
    rw [hv _ _ _ q, forK_eq heq]

noncomputable def wF : Nat := Classical.choose (⟨100000, rfl⟩ : ∃ n : Nat, n = 100000)
end
end Pm
namespace Pm
open PySem PySem.Spec PyProof.Rows L2


abbrev W0 : WX := fun _ _ _ _ => False
def noOw (vs : List Nat) (sl : Ls) : Bool := vs.all fun j => match sl[j]? with
  | some (.ow _) => false
  | _ => true
def noEx {α : Type} (m : M α) : M α := fun w => match m w with
  | .ex _ _ => .bad
  | r => r
section
variable {α β : Type}
@[simp] theorem noEx_pure (a : α) : noEx (M.pure a) = M.pure a := rfl
@[simp] theorem noEx_bad : noEx (M.bad : M α) = M.bad := rfl
theorem noEx_ok {m : M α} {w w' : W} {a : α} (h : noEx m w = .ok a w') : m w = .ok a w' := by
  unfold noEx at h
  cases q : m w with
  | ex c w1 => rw [q] at h; cases h
  | bad => rw [q] at h; cases h
  | ok b w1 => rw [q] at h; exact h
theorem noEx_ex {m : M α} {w w' : W} {c : Str} : noEx m w ≠ .ex c w' := by
  unfold noEx
  cases q : m w <;> simp
end
def fMapM (f : D → M D) : List D → M (List D)
  | [] => M.pure []
  | x :: xs => (noEx (f x)).bind fun a => (fMapM f xs).bind fun r => M.pure (a :: r)
def fFltM (f : D → M (Option D)) : List D → M (List D)
  | [] => M.pure []
  | x :: xs => (noEx (f x)).bind fun a => (fFltM f xs).bind fun r => M.pure (a.toList ++ r)
def fCatM (f : D → M (List D)) : List D → M (List D)
  | [] => M.pure []
  | x :: xs => (noEx (f x)).bind fun a => (fCatM f xs).bind fun r => M.pure (a ++ r)
theorem bind_okE {α β : Type} {m : M α} {k : α → M β} {w w' : W} {b : β} (h : M.bind m k w = .ok b w') : ∃ a w1, m w = .ok a w1 ∧ k a w1 = .ok b w' := by
  unfold M.bind at h
  cases q : m w with
  | ex c w1 => rw [q] at h; cases h
  | bad => rw [q] at h; cases h
  | ok a w1 => rw [q] at h; exact ⟨a, w1, rfl, h⟩
theorem setNo_get : ∀ {vs : List Nat} {sl : Ls} {j : Nat} {x : Sl}, (setNo vs sl)[j]? = some x → (j ∈ vs ∧ x = .no) ∨ (j ∉ vs ∧ sl[j]? = some x)
  | [], sl, j, x, h => .inr ⟨by simp, h⟩
  | v :: vs, sl, j, x, h => by
    rcases setNo_get (vs := vs) h with ⟨m, z⟩ | ⟨m, z⟩
    · exact .inl ⟨by simp [m], z⟩
    · rcases get_set z with ⟨rfl, q, _⟩ | ⟨n, q⟩
      · exact .inl ⟨by simp, q⟩
      · exact .inr ⟨by simp [n, m], q⟩
theorem setNo_len : ∀ (vs : List Nat) (sl : Ls), (setNo vs sl).length = sl.length
  | [], sl => rfl
  | v :: vs, sl => by rw [setNo, setNo_len vs, List.length_set]
theorem setNo_out : ∀ {vs : List Nat} {sl : Ls} {j : Nat}, j ∉ vs → (setNo vs sl)[j]? = sl[j]?
  | [], sl, j, _ => rfl
  | v :: vs, sl, j, h => by
    simp only [List.mem_cons, not_or] at h
    rw [setNo, setNo_out h.2, List.getElem?_set_ne (Ne.symm h.1)]
theorem wipe_not {σ : L2.St} {vs : List Nat} {j : Nat} (h : j ∉ vs) : (wipe σ vs)[j]? = σ[j]? := wipe_out h
section
variable {K : PySem.W.Frag} {ws ws' : Wa} {B0 : Addr → Prop} {sl sl2 : Ls} {w w' : W} {σ σ2 : L2.St} {H H' : Hp} {vs : List Nat}
theorem own_wipe {a : Addr} (h : Own (setNo vs sl) (wipe σ vs) a) : Own sl σ a := by
  obtain ⟨j, d, h1, h2⟩ := h
  rcases setNo_get h1 with ⟨_, z⟩ | ⟨n, h1⟩
  · cases z
  · rw [wipe_not n] at h2
    exact ⟨j, d, h1, h2⟩
theorem Env.wipe (e : Env K ws B0 sl w σ H) : Le ws (Own sl σ) H ws (Own (setNo vs sl) (L2.wipe σ vs)) H ∧ Env K ws B0 (setNo vs sl) w (L2.wipe σ vs) H := by
  have l : Le ws (Own sl σ) H ws (Own (setNo vs sl) (L2.wipe σ vs)) H := ⟨ws.le_refl, fun _ h => .inl h, fun a h => .inl (own_wipe h), fun _ _ h _ _ => h, fun _ h => h⟩
  refine ⟨l, ⟨by rw [setNo_len, wipe_length]; exact e.len, e.wr, e.bx, e.dom, fun j d h => ?_, fun j d h => ?_, fun j k d d' a h1 h2 h3 h4 => ?_⟩⟩
  · rcases setNo_get h with ⟨_, z⟩ | ⟨n, h⟩
    · cases z
    · obtain ⟨v, q1, q2⟩ := e.va j d h
      exact ⟨v, by rw [wipe_not n]; exact q1, q2.le l⟩
  · rcases setNo_get h with ⟨_, z⟩ | ⟨n, h⟩
    · cases z
    · obtain ⟨a, q1, q2, q3⟩ := e.ow j d h
      exact ⟨a, by rw [wipe_not n]; exact q1, q2.le l fun _ z => z, q3⟩
  · rcases setNo_get h1 with ⟨_, z⟩ | ⟨n1, h1⟩
    · cases z
    · rcases setNo_get h2 with ⟨_, z⟩ | ⟨n2, h2⟩
      · cases z
      · rw [wipe_not n1] at h3
        rw [wipe_not n2] at h4
        exact e.uq j k d d' a h1 h2 h3 h4
theorem noOw_of {j : Nat} {d : D} (hv : noOw vs sl = true) (h : sl[j]? = some (.ow d)) : j ∉ vs := fun hj => by
  have := List.all_eq_true.mp hv j hj
  rw [h] at this
  cases this
theorem Env.back {B' : Addr → Prop} (e : Env K ws B0 sl w σ H) (hB : ∀ a, B' a → B0 a ∨ H a = none) (hv : noOw vs sl = true) (l : Le ws (Own sl σ) H ws' (Own sl2 σ2) H') (e' : Env K ws' B' sl2 w' σ2 H') (hw : L2.wipe σ2 vs = L2.wipe σ vs) (hs : ∀ j, j ∉ vs → sl2[j]? = sl[j]?) :
    Le ws (Own sl σ) H ws' (Own sl σ) H' ∧ Env K ws' B' sl w' σ H' ∧ Le ws' (Own sl2 σ2) H' ws' (Own sl σ) H' := by
  have out : ∀ {j : Nat}, j ∉ vs → σ2[j]? = σ[j]? := fun n => by rw [← wipe_not n (σ := σ2), hw, wipe_not n]
  have hO : ∀ a, Own sl σ a → Own sl2 σ2 a := fun a ⟨j, d, h1, h2⟩ => by
    have n := noOw_of hv h1
    exact ⟨j, d, by rw [hs j n]; exact h1, by rw [out n]; exact h2⟩
  have l' : Le ws (Own sl σ) H ws' (Own sl σ) H' := ⟨l.wle, l.new, fun a h => .inl h, l.keep, l.ex⟩
  have l2 : Le ws' (Own sl2 σ2) H' ws' (Own sl σ) H' := ⟨ws'.le_refl, fun _ h => .inl h, fun a h => .inl (hO a h), fun _ _ h _ _ => h, fun _ h => h⟩
  refine ⟨l', ⟨e.len, e'.wr, e'.bx, e'.dom, fun j d h => ?_, fun j d h => ?_, e.uq⟩, l2⟩
  · obtain ⟨v, q1, q2⟩ := e.va j d h
    exact ⟨v, q1, q2.more hB l'⟩
  · have n := noOw_of hv h
    obtain ⟨a, q1, q2, q3⟩ := e'.ow j d (by rw [hs j n]; exact h)
    exact ⟨a, by rw [← out n]; exact q1, q2.le l2 fun _ z => z, q3⟩
theorem Env.more {B' : Addr → Prop} (e : Env K ws B0 sl w σ H) (hB : ∀ a, B' a → B0 a ∨ (H' a ≠ none ∧ H a = none)) (hX : ∀ a, B' a → B0 a ∨ BxO (H' a)) (g : Grow H H') : Env K ws B' sl w σ H' := by
  have hb : ∀ a, B' a → B0 a ∨ H a = none := fun a z => (hB a z).imp id fun q => q.2
  have l : Le ws (Own sl σ) H ws (Own sl σ) H' := g.le ws _
  refine ⟨e.len, e.wr.grow g, fun a h => ?_, fun a h z => ?_, fun j d h => ?_, fun j d h => ?_, e.uq⟩
  · have old := e.bx.keep (H' := H') e.dom (fun _ z => .inl z) fun a o _ z => g a o z
    rcases hX a h with q | q
    · exact old a q
    · rcases hB a h with y | y
      · exact old a y
      · exact ⟨fun z => e.wd a z y.2, q⟩
  · rcases hB a h with q | q
    · exact e.dom a q (g.ex a z)
    · exact q.1 z
  · obtain ⟨v, q1, q2⟩ := e.va j d h
    exact ⟨v, q1, q2.more hb l⟩
  · obtain ⟨a, q1, q2, q3, q4⟩ := e.ow j d h
    refine ⟨a, q1, ?_, q3, fun z => ?_⟩
    · cases d <;> first
        | exact q2.elim
        | (obtain ⟨vs, r1, r2, r3⟩ := q2; exact ⟨vs, g _ _ r1, r2, r3.more hb l⟩)
    · rcases hb a z with q | q
      · exact q4 q
      · exact q2.there q
theorem upd_ex {H : Hp} {a : Addr} {o : HO} (h : H a ≠ none) : ∀ b, upd H a o b = none → H b = none := fun b z => by
  by_cases q : b = a
  · subst q; rw [upd_same] at z; cases z
  · rw [upd_ne q] at z; exact z
theorem Env.setB {a : Addr} {o : HO} (e : Env K ws B0 sl w σ H) (hb : B0 a) (hn : ¬ ws.has a) (hx : BxO (H a)) (ho : BxO (some o)) : Env K ws B0 sl w σ (upd H a o) := by
  have ha := e.dom a hb
  have hk : ∀ b u, H b = some u → ¬ Bad ws B0 sl σ b → upd H a o b = some u := fun b u h n => by rw [upd_ne (fun z => n (by rw [z]; exact .inr (.inl hb)))]; exact h
  have hx1 := upd_ex (o := o) ha
  refine ⟨e.len, ?_, fun b h => ⟨(e.bx b h).1, ?_⟩, fun b h z => e.dom b h (hx1 b z), fun j d h => ?_, fun j d h => ?_, e.uq⟩
  · exact e.wr.upd hn hx
  · by_cases q : b = a
    · subst q; rw [upd_same]; exact ho
    · rw [upd_ne q]; exact (e.bx b h).2
  · obtain ⟨v, q1, q2⟩ := e.va j d h
    exact ⟨v, q1, q2.keep ws.le_refl hk fun _ z => .inl z⟩
  · obtain ⟨b, q1, q2, q3, q4⟩ := e.ow j d h
    have hba : b ≠ a := fun z => q4 (by rw [z]; exact hb)
    refine ⟨b, q1, ?_, q3, q4⟩
    cases d <;> first
      | exact q2.elim
      | (obtain ⟨vs, r1, r2, r3⟩ := q2; exact ⟨vs, by rw [upd_ne hba]; exact r1, r2, r3.keep ws.le_refl hk fun _ z => .inl z⟩)
theorem Env.fewer {B' : Addr → Prop} (e : Env K ws B' sl w σ H) (hB : ∀ a, B0 a → B' a) : Env K ws B0 sl w σ H := by
  have hb : ∀ a, Bad ws B0 sl σ a → Bad ws B' sl σ a ∨ H a = none := fun a z => .inl (z.imp id fun q => q.imp (hB a) id)
  refine ⟨e.len, e.wr, fun a h => e.bx a (hB a h), fun a h => e.dom a (hB a h), fun j d h => ?_, fun j d h => ?_, e.uq⟩
  · obtain ⟨v, q1, q2⟩ := e.va j d h
    exact ⟨v, q1, q2.keep ws.le_refl (fun _ _ z _ => z) hb⟩
  · obtain ⟨a, q1, q2, q3, q4⟩ := e.ow j d h
    refine ⟨a, q1, ?_, q3, fun z => q4 (hB a z)⟩
    cases d <;> first
      | exact q2.elim
      | (obtain ⟨vs, r1, r2, r3⟩ := q2; exact ⟨vs, r1, r2, r3.keep ws.le_refl (fun _ _ z _ => z) hb⟩)
theorem Env.adopt {ws0 : Wa} {sl0 : Ls} {σ0 : L2.St} {H0 : Hp} {D0 : Addr} {o : HO} {d : D} {i : Nat} (e : Env K ws (fun a => B0 a ∨ a = D0) sl w σ H) (hn : H0 D0 = none) (ho : H D0 = some o) (nb : ¬ Bad ws B0 sl σ D0) (l : Le ws0 (Own sl0 σ0) H0 ws (Own sl σ) H)
    (hd : ON K ws (Bad ws (fun a => B0 a ∨ a = D0) sl σ) H o d) : Le ws0 (Own sl0 σ0) H0 ws (Own (sl.set i (.ow d)) (σ.set i (some (.ref D0)))) H ∧ Env K ws B0 (sl.set i (.ow d)) w (σ.set i (some (.ref D0))) H := by
  have hO : ∀ a, Own (sl.set i (.ow d)) (σ.set i (some (.ref D0))) a → Own sl σ a ∨ a = D0 := fun a ⟨j, dj, h1, h2⟩ => by
    rcases get_set h1 with ⟨rfl, z, hl⟩ | ⟨n, h1⟩
    · rw [List.getElem?_set_self (by rw [← e.len]; exact hl)] at h2
      cases h2; exact .inr rfl
    · rw [List.getElem?_set_ne (Ne.symm n)] at h2
      exact .inl ⟨j, dj, h1, h2⟩
  have hb : ∀ a, Bad ws B0 (sl.set i (.ow d)) (σ.set i (some (.ref D0))) a → Bad ws (fun a => B0 a ∨ a = D0) sl σ a ∨ H a = none := fun a z => by
    rcases z with z | z | z
    · exact .inl (.inl z)
    · exact .inl (.inr (.inl (.inl z)))
    · rcases hO a z with z | z
      · exact .inl (.inr (.inr z))
      · exact .inl (.inr (.inl (.inr z)))
  have kp : ∀ {vs : List V} {ds : List D}, DRs K ws (Bad ws (fun a => B0 a ∨ a = D0) sl σ) H vs ds → DRs K ws (Bad ws B0 (sl.set i (.ow d)) (σ.set i (some (.ref D0)))) H vs ds := fun r => r.keep ws.le_refl (fun _ _ z _ => z) hb
  refine ⟨⟨l.wle, l.new, fun a z => ?_, l.keep, l.ex⟩, ⟨?_, e.wr, fun a h => e.bx a (.inl h), fun a h => e.dom a (.inl h), fun j dj hj => ?_, fun j dj hj => ?_, fun j k dj dk a hj hk ha hb' => ?_⟩⟩
  · rcases hO a z with z | z
    · exact l.own a z
    · rw [z]; exact .inr hn
  · rw [List.length_set, List.length_set]; exact e.len
  · rcases get_set hj with ⟨rfl, z, hl⟩ | ⟨n, hj⟩
    · cases z
    · obtain ⟨u, h1, h2⟩ := e.va j dj hj
      exact ⟨u, by rw [List.getElem?_set_ne (Ne.symm n)]; exact h1, h2.keep ws.le_refl (fun _ _ z _ => z) hb⟩
  · rcases get_set hj with ⟨rfl, z, hl⟩ | ⟨n, hj⟩
    · cases z
      refine ⟨D0, by rw [List.getElem?_set_self (by rw [← e.len]; exact hl)], ?_, fun z => nb (.inl z), fun z => nb (.inr (.inl z))⟩
      cases d <;> first
        | exact hd.elim
        | (obtain ⟨vs, rfl, r2, r3⟩ := hd; exact ⟨vs, ho, r2, kp r3⟩)
    · obtain ⟨a, h1, h2, h3, h4⟩ := e.ow j dj hj
      refine ⟨a, by rw [List.getElem?_set_ne (Ne.symm n)]; exact h1, ?_, h3, fun z => h4 (.inl z)⟩
      cases dj <;> first
        | exact h2.elim
        | (obtain ⟨vs, r1, r2, r3⟩ := h2; exact ⟨vs, r1, r2, kp r3⟩)
  · have old : ∀ {q : Nat} {dq : D}, sl[q]? = some (.ow dq) → σ[q]? ≠ some (some (.ref D0)) := fun {q dq} h1 h2 => nb (.inr (.inr ⟨q, dq, h1, h2⟩))
    rcases get_set hj with ⟨rfl, z, hl⟩ | ⟨n1, hj'⟩
    · rw [List.getElem?_set_self (by rw [← e.len]; exact hl)] at ha
      cases ha
      rcases get_set hk with ⟨rfl, z, _⟩ | ⟨n2, hk'⟩
      · rfl
      · rw [List.getElem?_set_ne (Ne.symm n2)] at hb'
        exact absurd hb' (old hk')
    · rw [List.getElem?_set_ne (Ne.symm n1)] at ha
      rcases get_set hk with ⟨rfl, z, hl⟩ | ⟨n2, hk'⟩
      · rw [List.getElem?_set_self (by rw [← e.len]; exact hl)] at hb'
        cases hb'
        exact absurd ha (old hj')
      · rw [List.getElem?_set_ne (Ne.symm n2)] at hb'
        exact e.uq j k dj dk a hj' hk' ha hb'
theorem out_wipe {ts : List Nat} (ho : Out ts (L2.wipe σ vs) σ2) (hts : ∀ j ∈ ts, j ∈ vs) : L2.wipe σ2 vs = L2.wipe σ vs := by
  apply List.ext_getElem?
  intro j
  by_cases hj : j ∈ vs
  · have len : (L2.wipe σ2 vs).length = (L2.wipe σ vs).length := by rw [wipe_length, ho.1]
    cases q : (L2.wipe σ2 vs)[j]? with
    | none =>
      rw [List.getElem?_eq_none_iff] at q
      exact (List.getElem?_eq_none_iff.mpr (by omega)).symm
    | some x =>
      cases q2 : (L2.wipe σ vs)[j]? with
      | none =>
        rw [List.getElem?_eq_none_iff] at q2
        have := (List.getElem?_eq_some_iff.mp q).1
        omega
      | some y =>
        cases x with
        | some v => exact absurd hj (wipe_some q).2
        | none =>
          cases y with
          | some v => exact absurd hj (wipe_some q2).2
          | none => rfl
  · rw [wipe_not hj, wipe_not hj, ho.2 j (fun z => hj (hts j z)), wipe_not hj]
end

section
variable (K : PySem.W.Frag) (B' : Addr → Prop) (D0 : Addr) (sl : Ls) (σ : L2.St) (ws0 : Wa) (O0 : Addr → Prop) (H0 : Hp)
structure CAt (ws : Wa) (w : W) (as : List D) (H : Hp) : Prop where
  le : Le ws0 O0 H0 ws (Own sl σ) H
  env : Env K ws B' sl w σ H
  nD : ¬ ws.has D0
  acc : ∃ vl, H D0 = some (.lst vl) ∧ DRs K ws (Bad ws B' sl σ) H vl as
end
inductive Rem (T : D → W → List D → W → Prop) : List D → W → List D → W → Prop
  | nil {w : W} : Rem T [] w [] w
  | cons {x : D} {xs : List D} {w w1 wF : W} {a r : List D} : T x w a w1 → Rem T xs w1 r wF → Rem T (x :: xs) w (a ++ r) wF
section
variable {K : PySem.W.Frag} {B' : Addr → Prop} {D0 : Addr} {sl : Ls} {σ : L2.St} {ws0 : Wa} {O0 : Addr → Prop} {H0 : Hp}
theorem CAt.grow {ws : Wa} {w : W} {as : List D} {H H' : Hp} (g : Grow H H') (c : CAt K B' D0 sl σ ws0 O0 H0 ws w as H) : CAt K B' D0 sl σ ws0 O0 H0 ws w as H' :=
  ⟨c.le.trans (g.le _ _), c.env.grow g, c.nD, let ⟨vl, h1, h2⟩ := c.acc; ⟨vl, g _ _ h1, h2.grow g⟩⟩
theorem loop_go {T : D → W → List D → W → Prop} {items pre ds : List D} {w1 wF : W} {J : It} {ws1 : Wa} {H1 : Hp} {Fin : Hp → Prop} {STEP : V → Hp → (Hp → Prop) → Prop} (hrem : Rem T items w1 ds wF)
    (hJ : ∀ ws w as H, CAt K B' D0 sl σ ws0 O0 H0 ws w as H → JOk K ws (Bad ws B' sl σ) J items H) (h0 : CAt K B' D0 sl σ ws0 O0 H0 ws1 w1 pre H1)
    (fin : ∀ ws H, CAt K B' D0 sl σ ws0 O0 H0 ws wF (pre ++ ds) H → Fin H)
    (step : ∀ ws w as H v x a w2 rest (Nx : Hp → Prop), CAt K B' D0 sl σ ws0 O0 H0 ws w as H → DR K ws (Bad ws B' sl σ) H v x → T x w a w2 → as ++ (a ++ rest) = pre ++ ds → (∀ ws' H', CAt K B' D0 sl σ ws0 O0 H0 ws' w2 (as ++ a) H' → Nx H') → STEP v H Nx) :
    ∃ W : Nat → Nat → Hp → Prop, (∃ m, W 0 m H1) ∧ ∀ i m H, W i m H → (J.stop i H ∧ Fin H) ∨ (J.go i H ∧ ∃ Nx : Hp → Prop, (∀ H', Nx H' → ∃ m', m' < m ∧ W (i + 1) m' H') ∧ ∀ x H', J.yld i H x H' → STEP x H' Nx) := by
  refine ⟨fun i m H => m = items.length - i ∧ ∃ ws w as r, CAt K B' D0 sl σ ws0 O0 H0 ws w as H ∧ Rem T (items.drop i) w r wF ∧ as ++ r = pre ++ ds, ⟨_, rfl, ws1, w1, pre, ds, h0, hrem, rfl⟩, ?_⟩
  rintro i m H ⟨rfl, ws, w, as, r, c, hr, hds⟩
  have hj := hJ ws w as H c i
  by_cases hi : i < items.length
  · have hd : items[i]? = some items[i] := by simp [hi]
    rw [List.drop_eq_getElem_cons hi] at hr
    obtain ⟨hgo, hy⟩ := hj.1 _ hd
    cases hr with
    | @cons _ _ _ w2 _ a r' hT hr' =>
      refine .inr ⟨hgo, fun H' => ∃ m', m' < items.length - i ∧ m' = items.length - (i + 1) ∧ ∃ ws w as r, CAt K B' D0 sl σ ws0 O0 H0 ws w as H' ∧ Rem T (items.drop (i + 1)) w r wF ∧ as ++ r = pre ++ ds, fun H' z => z, fun x H' hyl => ?_⟩
      obtain ⟨gr, hx⟩ := hy x H' hyl
      exact step ws w as H' x _ a w2 r' _ (c.grow gr) hx hT hds fun ws' H'' c' => ⟨_, by omega, rfl, ws', w2, as ++ a, r', c', hr', by rw [List.append_assoc]; exact hds⟩
  · rw [List.drop_of_length_le (by omega)] at hr
    cases hr
    rw [List.append_nil] at hds
    subst hds
    exact .inl ⟨hj.2 (by omega), fin ws H c⟩
theorem CAt.push {ws : Wa} {w : W} {as : List D} {H : Hp} {v : V} {d : D} (hB : B' D0) (hn0 : H0 D0 = none ∨ O0 D0) (c : CAt K B' D0 sl σ ws0 O0 H0 ws w as H) (hd : DR K ws (Bad ws B' sl σ) H v d) (hz : as.length < sizeLine) : ∃ acc, H D0 = some (.lst acc) ∧ acc.length < sizeLine ∧ CAt K B' D0 sl σ ws0 O0 H0 ws w (as ++ [d]) (upd H D0 (.lst (acc ++ [v]))) := by
  obtain ⟨vl, h1, h2⟩ := c.acc
  have hk : ∀ b u, H b = some u → ¬ Bad ws B' sl σ b → upd H D0 (.lst (vl ++ [v])) b = some u := fun b u h n => by
    rw [upd_ne (fun z => n (.inr (.inl (by rw [z]; exact hB))))]; exact h
  have hx := upd_ex (o := .lst (vl ++ [v])) (sm h1)
  have hall := h2.append (.one hd)
  refine ⟨vl, h1, by rw [h2.length]; exact hz, ⟨⟨c.le.wle, c.le.new, c.le.own, fun b u q1 q2 q3 => ?_, fun b z => c.le.ex b (hx b z)⟩, c.env.setB hB c.nD (by rw [h1]; trivial) trivial, c.nD, _, upd_same, hall.keep ws.le_refl hk fun _ z => .inl z⟩⟩
  rw [upd_ne (fun z => by
    rcases hn0 with hn0 | hn0
    · rw [z, hn0] at q1; cases q1
    · exact q3 (by rw [z]; exact hn0))]
  exact c.le.keep b u q1 q2 q3
end
section
variable {X : Cx}
end

def T1 (vs : List Nat) (p : Gk) (f : Dn) (sl : Ls) (x : D) (w : W) (a : List D) (w1 : W) : Prop := ∃ d, a = [d] ∧ p D x (fun sl1 => f sl1) (setNo vs sl) w = .ok d w1
def T2 (vs : List Nat) (p : Gk) (c : Bn) (f : Dn) (sl : Ls) (x : D) (w : W) (a : List D) (w1 : W) : Prop := ∃ o : Option D, a = o.toList ∧ p (Option D) x (fun sl1 => fIf (c sl1) ((f sl1).bind fun d => M.pure (some d)) (M.pure none)) (setNo vs sl) w = .ok o w1
theorem rem_map {F : D → M D} {T : D → W → List D → W → Prop} (hT : ∀ x w d w1, F x w = .ok d w1 → T x w [d] w1) : ∀ {items ds : List D} {w wF : W}, fMapM F items w = .ok ds wF → Rem T items w ds wF ∧ ds.length = items.length
  | [], ds, w, wF, h => by cases h; exact ⟨.nil, rfl⟩
  | x :: xs, ds, w, wF, h => by
    obtain ⟨a, w1, h1, h2⟩ := bind_okE h
    obtain ⟨r, w2, h3, h4⟩ := bind_okE h2
    cases h4
    obtain ⟨r1, r2⟩ := rem_map hT h3
    exact ⟨.cons (a := [a]) (hT _ _ _ _ (noEx_ok h1)) r1, by simp [r2]⟩
theorem rem_flt {F : D → M (Option D)} {T : D → W → List D → W → Prop} (hT : ∀ x w o w1, F x w = .ok o w1 → T x w o.toList w1) : ∀ {items ds : List D} {w wF : W}, fFltM F items w = .ok ds wF → Rem T items w ds wF ∧ ds.length ≤ items.length
  | [], ds, w, wF, h => by cases h; exact ⟨.nil, Nat.le_refl _⟩
  | x :: xs, ds, w, wF, h => by
    obtain ⟨a, w1, h1, h2⟩ := bind_okE h
    obtain ⟨r, w2, h3, h4⟩ := bind_okE h2
    cases h4
    obtain ⟨r1, r2⟩ := rem_flt hT h3
    refine ⟨.cons (hT _ _ _ _ (noEx_ok h1)) r1, ?_⟩
    cases a <;> simp <;> omega
theorem map_noex {F : D → M D} : ∀ {items : List D} {w w' : W} {c : Str}, fMapM F items w ≠ .ex c w'
  | [], w, w', c, h => by cases h
  | x :: xs, w, w', c, h => by
    unfold fMapM M.bind at h
    cases q : noEx (F x) w with
    | ex c w1 => exact noEx_ex q
    | bad => rw [q] at h; cases h
    | ok a w1 =>
      rw [q] at h
      simp only at h
      cases q2 : fMapM F xs w1 with
      | ex c w1 => exact map_noex q2
      | bad => rw [q2] at h; cases h
      | ok a w1 => rw [q2] at h; cases h
theorem flt_noex {F : D → M (Option D)} : ∀ {items : List D} {w w' : W} {c : Str}, fFltM F items w ≠ .ex c w'
  | [], w, w', c, h => by cases h
  | x :: xs, w, w', c, h => by
    unfold fFltM M.bind at h
    cases q : noEx (F x) w with
    | ex c w1 => exact noEx_ex q
    | bad => rw [q] at h; cases h
    | ok a w1 =>
      rw [q] at h
      simp only at h
      cases q2 : fFltM F xs w1 with
      | ex c w1 => exact flt_noex q2
      | bad => rw [q2] at h; cases h
      | ok a w1 => rw [q2] at h; cases h
section
variable {K : PySem.W.Frag} {mg : Str → Option Value} {Wx : WX} {ws1 : Wa} {B0 : Addr → Prop} {sl : Ls} {w1 wF : W} {σ : L2.St} {H1 : Hp} {vs ts : List Nat} {p : Gk} {c : Bn} {f : Dn} {items ds : List D} {J : It} {Q : VK}
theorem comp_go {T : D → W → List D → W → Prop} {STEP : Addr → V → Hp → (Hp → Prop) → Prop} (e1 : Env K ws1 B0 sl w1 σ H1) (hrem : Rem T items w1 ds wF) (hz : ds.length ≤ sizeLine)
    (hJ : ∀ ws' (B' : Addr → Prop) H', ws1.le ws' → (∀ a o, H1 a = some o → ¬ Bad ws1 B0 sl σ a → H' a = some o) → (∀ a, B' a → Bad ws1 B0 sl σ a ∨ H1 a = none) → (∀ a, B' a → H' a ≠ none) → JOk K ws' B' J items H')
    (D0 : Addr) (hD : H1 D0 = none)
    (step : ∀ ws w as H v x a w2 rest (Nx : Hp → Prop), CAt K (fun a => B0 a ∨ a = D0) D0 sl σ ws1 (Own sl σ) H1 ws w as H → DR K ws (Bad ws (fun a => B0 a ∨ a = D0) sl σ) H v x → T x w a w2 → (as ++ (a ++ rest)).length ≤ sizeLine → (∀ ws' H', CAt K (fun a => B0 a ∨ a = D0) D0 sl σ ws1 (Own sl σ) H1 ws' w2 (as ++ a) H' → Nx H') → STEP D0 v H Nx)
    (fin : ∀ ws' H' vl, H' D0 = some (.lst vl) → ¬ ws'.has D0 → Le ws1 (Own sl σ) H1 ws' (Own sl σ) H' → Env K ws' (fun a => B0 a ∨ a = D0) sl wF σ H' → DRs K ws' (Bad ws' (fun a => B0 a ∨ a = D0) sl σ) H' vl ds → Q (.ref D0) H') :
    ∃ W : Nat → Nat → Hp → Prop, (∃ m, W 0 m (upd H1 D0 (.lst []))) ∧ ∀ i m H, W i m H → (J.stop i H ∧ Q (.ref D0) H) ∨ (J.go i H ∧ ∃ Nx : Hp → Prop, (∀ H', Nx H' → ∃ m', m' < m ∧ W (i + 1) m' H') ∧ ∀ x H', J.yld i H x H' → STEP D0 x H' Nx) := by
  have gD := Grow.new (o := .lst []) hD
  have hB' : ∀ a, (B0 a ∨ a = D0) → B0 a ∨ (upd H1 D0 (.lst []) a ≠ none ∧ H1 a = none) := fun a z => z.imp id fun q => by subst q; exact ⟨sm upd_same, hD⟩
  refine loop_go (pre := []) (Fin := fun H => Q (.ref D0) H) (STEP := STEP D0) hrem (fun ws w as H c => ?_) (⟨gD.le _ _, e1.more hB' (fun a z => z.imp id fun q => by rw [q, upd_same]; trivial) gD, fun z => e1.wd D0 z hD, [], upd_same, .nil⟩ : CAt K (fun a => B0 a ∨ a = D0) D0 sl σ ws1 (Own sl σ) H1 ws1 w1 [] (upd H1 D0 (.lst []))) (fun ws H c => ?_) fun ws w as H v x a w2 rest Nx cc hd hT hl hnx => step ws w as H v x a w2 rest Nx cc hd hT (by rw [hl]; exact hz) hnx
  · exact hJ ws _ H c.le.wle c.le.kp (bad_more (fun a z => z.imp id fun q => by rw [q]; exact hD) c.le) c.env.bad
  · obtain ⟨vl, h1, h2⟩ := c.acc
    exact fin ws H vl h1 c.nD c.le c.env h2
theorem CAt.nO {B' : Addr → Prop} {D0 : Addr} {ws0 ws : Wa} {O0 : Addr → Prop} {H0 H : Hp} {w : W} {as : List D} (hBD : B' D0) (c : CAt K B' D0 sl σ ws0 O0 H0 ws w as H) : ¬ Own sl σ D0 := fun ⟨j, dj, z1, z2⟩ => by
  obtain ⟨a, y1, y2, y3, y4⟩ := c.env.ow j dj z1
  rw [z2] at y1
  cases y1
  exact y4 hBD
theorem CAt.after {B' : Addr → Prop} {D0 : Addr} {ws0 ws ws' : Wa} {O0 : Addr → Prop} {H0 H H' : Hp} {w w' : W} {as : List D} {sl' : Ls} {σ' : L2.St} (hBD : B' D0) (c : CAt K B' D0 sl σ ws0 O0 H0 ws w as H) (l : Le ws (Own sl σ) H ws' (Own sl' σ') H') (e : Env K ws' B' sl' w' σ' H') : CAt K B' D0 sl' σ' ws0 O0 H0 ws' w' as H' := by
  obtain ⟨vl, h1, h2⟩ := c.acc
  refine ⟨c.le.trans l, e, fun z => ?_, vl, l.keep D0 _ h1 c.nD (c.nO hBD), h2.le l⟩
  rcases l.new D0 z with q | q
  · exact c.nD q
  · rw [h1] at q; cases q
theorem bind_go {β : Type} {B' : Addr → Prop} {D0 : Addr} {ws0 : Wa} {O0 : Addr → Prop} {H0 : Hp} (hts : ∀ j ∈ ts, j ∈ vs) (hBD : B' D0) {ws : Wa} {w : W} {as : List D} {H : Hp} {v : V} {x : D} {nx : Ls → M β} {Q : L2.St → Hp → Prop}
    (cc : CAt K B' D0 sl σ ws0 O0 H0 ws w as H) (hd : DR K ws (Bad ws B' sl σ) H v x) (nb : p β x nx (setNo vs sl) w ≠ .bad)
    (k : ∀ ws2 sl2 w2 σ2 H2, CAt K B' D0 sl2 σ2 ws0 O0 H0 ws2 w2 as H2 → Le ws (Own sl σ) H ws2 (Own sl2 σ2) H2 → L2.wipe σ2 vs = L2.wipe σ vs → (∀ j, j ∉ vs → sl2[j]? = sl[j]?) → nx sl2 w2 = p β x nx (setNo vs sl) w → Q σ2 H2) : tGm K ts p v (L2.wipe σ vs) H Q := by
  obtain ⟨lw, ew⟩ := cc.env.wipe (vs := vs)
  refine ⟨ws, B', setNo vs sl, w, x, β, nx, ew, hd.le lw, nb, fun σ2 ws2 sl2 w2 H2 o2 u2 l2 e2 z2 => ?_⟩
  exact k ws2 sl2 w2 σ2 H2 (cc.after hBD (lw.trans l2) e2) (lw.trans l2) (out_wipe o2 hts) (fun j hj => by rw [u2 j (fun z => hj (hts j z)), setNo_out hj]) z2
theorem CAt.back {B' : Addr → Prop} {D0 : Addr} {ws0 ws ws2 : Wa} {O0 : Addr → Prop} {H0 H H2 : Hp} {w w2 : W} {as as2 : List D} {sl2 : Ls} {σ2 : L2.St} (hno : noOw vs sl = true) (cc : CAt K B' D0 sl σ ws0 O0 H0 ws w as H) (l : Le ws (Own sl σ) H ws2 (Own sl2 σ2) H2) (c : CAt K B' D0 sl2 σ2 ws0 O0 H0 ws2 w2 as2 H2) (hw : L2.wipe σ2 vs = L2.wipe σ vs) (hs : ∀ j, j ∉ vs → sl2[j]? = sl[j]?) :
    CAt K B' D0 sl σ ws0 O0 H0 ws2 w2 as2 H2 ∧ Le ws2 (Own sl2 σ2) H2 ws2 (Own sl σ) H2 := by
  obtain ⟨l', e', l2⟩ := cc.env.back (fun a z => .inl z) hno l c.env hw hs
  obtain ⟨vl, h1, h2⟩ := c.acc
  exact ⟨⟨c.le.trans l2, e', c.nD, vl, h1, h2.le l2⟩, l2⟩
def tYes : TT := fun _ H Q => Q true H
def STEP1 (K : PySem.W.Frag) (mg : Str → Option Value) (vs ts : List Nat) (p : Gk) (tt : TT) (f : Dn) (σ : L2.St) (D0 : Addr) (v : V) (H : Hp) (Nx : Hp → Prop) : Prop := tGm K ts p v (L2.wipe σ vs) H fun σ2 H2 => L2.wipe σ2 vs = L2.wipe σ vs ∧ tt σ2 H2 fun b H3 =>
        if b = true then tE K mg W0 f σ2 H3 fun y H4 => ∃ acc, H4 D0 = some (.lst acc) ∧ acc.length < sizeLine ∧ Nx (upd H4 D0 (.lst (acc ++ [y]))) else Nx H3
theorem runAt_ok {α : Type} {ws : Wa} {B : Addr → Prop} {H : Hp} {r : Rs α} {a : α} {w' : W} {k : Wa → W → α → Hp → Prop} (q : r = .ok a w') (h : ∀ ws' H', Le ws (Own sl σ) H ws' (Own sl σ) H' → Env K ws' B sl w' σ H' → k ws' w' a H') : runAt K mg Wx ws B sl σ H r k := by subst q; exact h
theorem put_go {B' : Addr → Prop} {D0 : Addr} {ws0 : Wa} {O0 : Addr → Prop} {H0 : Hp} {ws ws2 : Wa} {w w2 w3 : W} {as : List D} {H H2 : Hp} {sl2 : Ls} {σ2 : L2.St} {d : D} {Nx : Hp → Prop} (hBD : B' D0) (hn0 : H0 D0 = none ∨ O0 D0) (hno : noOw vs sl = true) (cc : CAt K B' D0 sl σ ws0 O0 H0 ws w as H) (l2 : Le ws (Own sl σ) H ws2 (Own sl2 σ2) H2) (c2 : CAt K B' D0 sl2 σ2 ws0 O0 H0 ws2 w2 as H2) (hw : L2.wipe σ2 vs = L2.wipe σ vs) (hs : ∀ j, j ∉ vs → sl2[j]? = sl[j]?) (hf : f sl2 w2 = .ok d w3) (hl : as.length < sizeLine)
    (hnx : ∀ ws' H', CAt K B' D0 sl σ ws0 O0 H0 ws' w3 (as ++ [d]) H' → Nx H') : tE K mg W0 f σ2 H2 fun y H4 => ∃ acc, H4 D0 = some (.lst acc) ∧ acc.length < sizeLine ∧ Nx (upd H4 D0 (.lst (acc ++ [y]))) := by
  refine ⟨ws2, B', sl2, w2, c2.env, runAt_ok hf fun ws4 H4 l4 e4 v hv => ?_⟩
  obtain ⟨cb, lb⟩ := CAt.back hno cc (l2.trans l4) (c2.after hBD l4 e4) hw hs
  obtain ⟨acc, h1, h2, h3⟩ := cb.push hBD hn0 (hv.le lb) hl
  exact ⟨acc, h1, h2, hnx _ _ h3⟩
theorem step1 {B' : Addr → Prop} {D0 : Addr} {ws0 : Wa} {O0 : Addr → Prop} {H0 : Hp} (hts : ∀ j ∈ ts, j ∈ vs) (hno : noOw vs sl = true) (hBD : B' D0) (hn0 : H0 D0 = none ∨ O0 D0) {ws w as H v x a w2} {rest : List D} {Nx : Hp → Prop} (cc : CAt K B' D0 sl σ ws0 O0 H0 ws w as H) (hd : DR K ws (Bad ws B' sl σ) H v x) (hT : T1 vs p f sl x w a w2) (hl : (as ++ (a ++ rest)).length ≤ sizeLine)
    (hnx : ∀ ws' H', CAt K B' D0 sl σ ws0 O0 H0 ws' w2 (as ++ a) H' → Nx H') : STEP1 K mg vs ts p tYes f σ D0 v H Nx := by
  obtain ⟨d, rfl, hp⟩ := hT
  refine bind_go hts hBD cc hd (by rw [hp]; exact fun z => by cases z) fun ws2 sl2 w3 σ2 H2 c2 l2 hw hs z => ⟨hw, ?_⟩
  rw [hp] at z
  show tE K mg W0 f σ2 H2 _
  exact put_go hBD hn0 hno cc l2 c2 hw hs z (by simp at hl; omega) hnx
theorem step2 {B' : Addr → Prop} {D0 : Addr} {ws0 : Wa} {O0 : Addr → Prop} {H0 : Hp} (hts : ∀ j ∈ ts, j ∈ vs) (hno : noOw vs sl = true) (hBD : B' D0) (hn0 : H0 D0 = none ∨ O0 D0) {ws w as H v x a w2} {rest : List D} {Nx : Hp → Prop} (cc : CAt K B' D0 sl σ ws0 O0 H0 ws w as H) (hd : DR K ws (Bad ws B' sl σ) H v x) (hT : T2 vs p c f sl x w a w2) (hl : (as ++ (a ++ rest)).length ≤ sizeLine)
    (hnx : ∀ ws' H', CAt K B' D0 sl σ ws0 O0 H0 ws' w2 (as ++ a) H' → Nx H') : STEP1 K mg vs ts p (tT K mg W0 c) f σ D0 v H Nx := by
  obtain ⟨o, rfl, hp⟩ := hT
  refine bind_go hts hBD cc hd (by rw [hp]; exact fun z => by cases z) fun ws2 sl2 w3 σ2 H2 c2 l2 hw hs z => ⟨hw, ?_⟩
  rw [hp] at z
  obtain ⟨b, w4, hc, z⟩ := bind_okE z
  refine ⟨ws2, _, sl2, w3, c2.env, runAt_ok hc fun ws4 H4 l4 e4 => ?_⟩
  have c4 := c2.after hBD l4 e4
  cases b with
  | false =>
    rw [if_neg Bool.false_ne_true] at z
    show Nx H4
    cases z
    have := (CAt.back hno cc (l2.trans l4) c4 hw hs).1
    exact hnx _ _ (by simpa using this)
  | true =>
    rw [if_pos rfl] at z
    obtain ⟨d, w5, hf, z⟩ := bind_okE z
    cases z
    show tE K mg W0 f σ2 H4 _
    exact put_go hBD hn0 hno cc (l2.trans l4) c4 hw hs hf (by simp at hl; omega) hnx
end
theorem DRs.small {K : PySem.W.Frag} {ws : Wa} {B0 : Addr → Prop} {sl : Ls} {σ : L2.St} {H : Hp} {D0 : Addr} {vl : List V} {ds : List D} (r : DRs K ws (Bad ws (fun a => B0 a ∨ a = D0) sl σ) H vl ds) : DRs K ws (Bad ws B0 sl σ) H vl ds :=
  r.keep ws.le_refl (fun _ _ z _ => z) fun a z => .inl (z.imp id fun q => q.imp .inl id)
def fLC (items : M (List D)) (f : D → M D) : M D := items.bind fun l => (fMapM f l).bind fun r => M.pure (.lst r)
def fLCf (items : M (List D)) (f : D → M (Option D)) : M D := items.bind fun l => (fFltM f l).bind fun r => M.pure (.lst r)
def nNo (vs : List Nat) (sl : Ls) (m : M D) : M D := match noOw vs sl with
  | true => m
  | false => M.bad
section
variable {X : Cx} {Wx : WX} {elt tg iter : Expr} {ifs : List Expr} {scope : Scope} {own : List (Str × Nat)} {pos : Pos} {it : An} {p : Gk} {c : Bn} {f : Dn} {ts : List Nat}
def lcPost (K : PySem.W.Frag) (mg : Str → Option Value) (Wx : WX) (ws : Wa) (B0 : Addr → Prop) (sl : Ls) (σ : L2.St) (H : Hp) (r : Rs D) (Q : VK) : Prop := match r with
  | .ok d wF => ∀ ws' H' D0 vl ds, d = .lst ds → ds.length ≤ sizeLine → H D0 = none → H' D0 = some (HO.lst vl) → ¬ Bad ws' B0 sl σ D0 → Le ws (Own sl σ) H ws' (Own sl σ) H' → Env K ws' (fun a => B0 a ∨ a = D0) sl wF σ H' → DRs K ws' (Bad ws' (fun a => B0 a ∨ a = D0) sl σ) H' vl ds → Q (.ref D0) H'
  | .ex x w' => ∀ ws' H' C, mg x = some (.ref C) → Le ws (Own sl σ) H ws' (Own sl σ) H' → Env K ws' B0 sl w' σ H' → Wx (.ref C) none σ H'
  | .bad => False
theorem lc_go {K : PySem.W.Frag} {mg : Str → Option Value} {vs : List Nat} (hts : ∀ j ∈ ts, j ∈ vs) (σ : L2.St) (H : Hp) (Q : VK) {ws : Wa} {B0 : Addr → Prop} {sl : Ls} {w : W} (e : Env K ws B0 sl w σ H)
    (h : lcPost K mg Wx ws B0 sl σ H (nNo vs sl (fLC (it sl) fun x => p D x (fun sl1 => f sl1) (setNo vs sl)) w) Q) : tLc (tIm K mg Wx it) (tGm K ts p) tYes (tE K mg W0 f) vs σ H Q := by
  unfold nNo at h
  cases hno : noOw vs sl with
  | false => rw [hno] at h; exact h.elim
  | true =>
    rw [hno] at h
    refine ⟨ws, B0, sl, w, e, ?_⟩
    unfold fLC M.bind at h
    simp only at h
    cases qi : it sl w with
    | bad => rw [qi] at h; exact h.elim
    | ex x s' => rw [qi] at h; exact h
    | ok items w1 =>
      rw [qi] at h
      simp only at h
      intro ws1 H1 l1 e1 J hz hJ D0 hD
      cases q : fMapM (fun x => p D x (fun sl1 => f sl1) (setNo vs sl)) items w1 with
      | bad => rw [q] at h; exact h.elim
      | ex y s2 => exact absurd q map_noex
      | ok ds wF =>
        rw [q] at h
        obtain ⟨hr, hl⟩ := rem_map (T := T1 vs p f sl) (fun x w d w1 z => ⟨d, rfl, z⟩) q
        refine comp_go (STEP := STEP1 K mg vs ts p tYes f σ) e1 hr (by omega) hJ D0 hD (fun ws w as H v x a w2 rest Nx cc hd hT hl hnx => step1 hts hno (.inr rfl) (.inl hD) cc hd hT hl hnx) fun ws' H' vl hvl nD l e' r => ?_
        refine h ws' H' D0 vl ds rfl (by omega) (l1.ex D0 hD) hvl (fun z => ?_) (l1.trans l) e' r
        rcases z with z | z | ⟨j, dj, z1, z2⟩
        · exact nD z
        · exact e1.dom D0 z hD
        · obtain ⟨a, y1, y2, y3, y4⟩ := e'.ow j dj z1
          rw [z2] at y1
          cases y1
          exact y4 (.inr rfl)
theorem lcf_go {K : PySem.W.Frag} {mg : Str → Option Value} {vs : List Nat} (hts : ∀ j ∈ ts, j ∈ vs) (σ : L2.St) (H : Hp) (Q : VK) {ws : Wa} {B0 : Addr → Prop} {sl : Ls} {w : W} (e : Env K ws B0 sl w σ H)
    (h : lcPost K mg Wx ws B0 sl σ H (nNo vs sl (fLCf (it sl) fun x => p (Option D) x (fun sl1 => fIf (c sl1) ((f sl1).bind fun d => M.pure (some d)) (M.pure none)) (setNo vs sl)) w) Q) : tLc (tIm K mg Wx it) (tGm K ts p) (tT K mg W0 c) (tE K mg W0 f) vs σ H Q := by
  unfold nNo at h
  cases hno : noOw vs sl with
  | false => rw [hno] at h; exact h.elim
  | true =>
    rw [hno] at h
    refine ⟨ws, B0, sl, w, e, ?_⟩
    unfold fLCf M.bind at h
    simp only at h
    cases qi : it sl w with
    | bad => rw [qi] at h; exact h.elim
    | ex x s' => rw [qi] at h; exact h
    | ok items w1 =>
      rw [qi] at h
      simp only at h
      intro ws1 H1 l1 e1 J hz hJ D0 hD
      cases q : fFltM (fun x => p (Option D) x (fun sl1 => fIf (c sl1) ((f sl1).bind fun d => M.pure (some d)) (M.pure none)) (setNo vs sl)) items w1 with
      | bad => unfold M.bind at q; rw [q] at h; exact h.elim
      | ex y s2 => exact absurd q flt_noex
      | ok ds wF =>
        obtain ⟨hr, hl⟩ := rem_flt (T := T2 vs p c f sl) (fun x w d w1 z => ⟨d, rfl, z⟩) q
        unfold M.bind at q
        rw [q] at h
        refine comp_go (STEP := STEP1 K mg vs ts p (tT K mg W0 c) f σ) e1 hr (by omega) hJ D0 hD (fun ws w as H v x a w2 rest Nx cc hd hT hl hnx => step2 hts hno (.inr rfl) (.inl hD) cc hd hT hl hnx) fun ws' H' vl hvl nD l e' r => ?_
        refine h ws' H' D0 vl ds rfl (by omega) (l1.ex D0 hD) hvl (fun z => ?_) (l1.trans l) e' r
        rcases z with z | z | ⟨j, dj, z1, z2⟩
        · exact nD z
        · exact e1.dom D0 z hD
        · obtain ⟨a, y1, y2, y3, y4⟩ := e'.ow j dj z1
          rw [z2] at y1
          cases y1
          exact y4 (.inr rfl)
theorem post_E {K : PySem.W.Frag} {mg : Str → Option Value} {ws : Wa} {B0 : Addr → Prop} {sl : Ls} {σ : L2.St} {H : Hp} {r : Rs D} {Q : VK} (h : runAt K mg Wx ws B0 sl σ H r fun ws' _ d H' => ∀ v, DR K ws' (Bad ws' B0 sl σ) H' v d → Q v H') : lcPost K mg Wx ws B0 sl σ H r Q := by
  cases r with
  | bad => exact h
  | ex c w => exact h
  | ok d wF =>
    intro ws' H' D0 vl ds hd hz hn hvl nb l e' rr
    subst hd
    exact h ws' H' l (e'.fewer fun a z => .inl z) _ (.lst hz nb hvl rr.small)
theorem pts_yes {X : Cx} : PTs X [] tYes := pts_nil
theorem m_lc (hc : X.calm = true) (hN : X.N.Nodup) (hi : PIm X Wx tg iter it) (ok : BlkOk X.N X.env.scope scope own) (hts : ∀ j ∈ ts, j ∈ own.map (·.2))
    (hg : ∀ (s : Shared) (H : Hp) (C : Addr) (cl : List (Str × Addr)) (fp : List Addr), PGm (X.blk s H scope (compEnvC scope cl C X.env) fp) tg ts p)
    (he : ∀ (s : Shared) (H : Hp) (C : Addr) (cl : List (Str × Addr)) (fp : List Addr), PEm (X.blk s H scope (compEnvC scope cl C X.env) fp) W0 elt f) (hs : ∀ x, foldedSetIterable iter X.env x = pure x := by intro _; rfl) :
    PEm X Wx (.ListComp elt [⟨tg, iter, [], 0⟩] scope pos) (fun sl => nNo (own.map (·.2)) sl (fLC (it sl) fun x => p D x (fun sl1 => f sl1) (setNo (own.map (·.2)) sl))) :=
  (pe_lc hc hN hi ok hg (fun _ _ _ _ _ => pts_yes) he hs).mimp fun σ H Q ⟨ws, B0, sl, w, e, h⟩ => lc_go hts σ H Q e (post_E h)
theorem m_lcf {cc : Expr} (hc : X.calm = true) (hN : X.N.Nodup) (hi : PIm X Wx tg iter it) (ok : BlkOk X.N X.env.scope scope own) (hts : ∀ j ∈ ts, j ∈ own.map (·.2))
    (hg : ∀ (s : Shared) (H : Hp) (C : Addr) (cl : List (Str × Addr)) (fp : List Addr), PGm (X.blk s H scope (compEnvC scope cl C X.env) fp) tg ts p) (ht : ∀ (s : Shared) (H : Hp) (C : Addr) (cl : List (Str × Addr)) (fp : List Addr), PTm (X.blk s H scope (compEnvC scope cl C X.env) fp) W0 cc c)
    (he : ∀ (s : Shared) (H : Hp) (C : Addr) (cl : List (Str × Addr)) (fp : List Addr), PEm (X.blk s H scope (compEnvC scope cl C X.env) fp) W0 elt f) (hs : ∀ x, foldedSetIterable iter X.env x = pure x := by intro _; rfl) :
    PEm X Wx (.ListComp elt [⟨tg, iter, [cc], 0⟩] scope pos) (fun sl => nNo (own.map (·.2)) sl (fLCf (it sl) fun x => p (Option D) x (fun sl1 => fIf (c sl1) ((f sl1).bind fun d => M.pure (some d)) (M.pure none)) (setNo (own.map (·.2)) sl))) :=
  (pe_lc hc hN hi ok hg (fun s H C cl fp => pts_one (ht s H C cl fp)) he hs).mimp fun σ H Q ⟨ws, B0, sl, w, e, h⟩ => lcf_go hts σ H Q e (post_E h)
theorem ms_setLc {i : Nat} {y : Str} {py spos : Pos} (hc : X.calm = true) (hN : X.N.Nodup) (hy : X.N[i]? = some y) (hyl : X.env.scope.names.lookup y = some .local)
    (hsw : swapsWith (.ListComp elt [⟨tg, iter, [], 0⟩] scope pos) (some (.Name y py)) spos.line X.env = pure true) (hi : PIm X Wx tg iter it) (ok : BlkOk X.N X.env.scope scope own) (hts : ∀ j ∈ ts, j ∈ own.map (·.2))
    (hg : ∀ (s : Shared) (H : Hp) (C : Addr) (cl : List (Str × Addr)) (fp : List Addr), PGm (X.blk s H scope (compEnvC scope cl C X.env) fp) tg ts p)
    (he : ∀ (s : Shared) (H : Hp) (C : Addr) (cl : List (Str × Addr)) (fp : List Addr), PEm (X.blk s H scope (compEnvC scope cl C X.env) fp) W0 elt f) (hs : ∀ x, foldedSetIterable iter X.env x = pure x := by intro _; rfl) :
    PSm X Wx (.Assign [.Name y py] (.ListComp elt [⟨tg, iter, [], 0⟩] scope pos) spos) (fun nx _ _ sl => (nNo (own.map (·.2)) sl (fLC (it sl) fun x => p D x (fun sl1 => f sl1) (setNo (own.map (·.2)) sl))).bind fun d => nx (sl.set i (.va d))) := by
  refine (ps_setLc (g := tGm X.K ts p) (tt := tYes) (te := tE X.K X.mg W0 f) hc hN hy hyl hsw hi ok hg (fun _ _ _ _ _ => pts_yes) he hs).mimp fun D0 σ H h => ?_
  obtain ⟨ws, B0, sl, w, e, h⟩ := set_go D0 σ H h
  exact lc_go hts σ H _ e (post_E h)
end

def fLC2 (items : M (List D)) (f : D → M (List D)) : M D := items.bind fun l => (fCatM f l).bind fun r => if r.length ≤ sizeLine then M.pure (.lst r) else M.bad
def fIn (items : M (List D)) (f : D → M D) : M (List D) := items.bind fun l => fMapM f l
section
variable {K : PySem.W.Frag} {mg : Str → Option Value} {Wx : WX} {ws1 : Wa} {B0 : Addr → Prop} {sl : Ls} {w1 wF : W} {σ : L2.St} {H1 : Hp} {vs ts vs1 ts1 : List Nat} {p p1 : Gk} {c : Bn} {f : Dn} {it1 : An}
end
section
variable {X : Cx} {Wx : WX} {elt tg iter tg1 iter1 : Expr} {ifs : List Expr} {scope : Scope} {own : List (Str × Nat)} {pos : Pos} {it it1 : An} {p p1 : Gk} {c : Bn} {f : Dn} {ts ts1 : List Nat}
end
end Pm
namespace Pm
open PySem PySem.Spec PyProof.Rows L2


abbrev Hk := Ls → (List Sl → M D) → M D
inductive SRs (K : PySem.W.Frag) (ws : Wa) (B : Addr → Prop) (H : Hp) : List V → List Sl → List Addr → Prop
  | nil : SRs K ws B H [] [] []
  | va {v : V} {d : D} {vs : List V} {xs : List Sl} {F : List Addr} : DR K ws B H v d → SRs K ws B H vs xs F → SRs K ws B H (v :: vs) (.va d :: xs) F
  | ow {p : Addr} {o : HO} {d : D} {vs : List V} {xs : List Sl} {F : List Addr} : H p = some o → ON K ws B H o d → SRs K ws B H vs xs F → SRs K ws B H (.ref p :: vs) (.ow d :: xs) (p :: F)
def tH (K : PySem.W.Frag) (mg : Str → Option Value) (Wx : WX) (h : Hk) : TA := fun σ H Q => ∃ ws B0 sl w k r0 nx bk ct D0, Env K ws B0 sl w σ H ∧ h sl k w = r0 ∧ Ans K mg Wx ws B0 sl σ H r0 nx bk ct D0 ∧
  ∀ ws' w' H' vs F xs, Le ws (Own sl σ) H ws' (Own sl σ) H' → Env K ws' (fun a => B0 a ∨ a ∈ F) sl w' σ H' → F.Nodup → (∀ a ∈ F, H a = none ∧ ¬ Bad ws' B0 sl σ a) → SRs K ws' (Bad ws' (fun a => B0 a ∨ a ∈ F) sl σ) H' vs xs F → k xs w' = r0 → Q vs H'
abbrev PHm (X : Cx) (Wx : WX) (es : List Expr) (h : Hk) : Prop := PA X es (tH X.K X.mg Wx h)
section
variable {K : PySem.W.Frag} {mg : Str → Option Value} {Wx : WX} {ws ws1 : Wa} {B0 : Addr → Prop} {sl : Ls} {σ : L2.St} {H H1 : Hp} {Q : List V → Hp → Prop}
theorem Ans.moreB {B' : Addr → Prop} {r : Rs D} {nx bk ct : Kn} {D0 : Ends} (hB : ∀ a, B0 a → B' a) (h : Ans K mg Wx ws B0 sl σ H r nx bk ct D0) : Ans K mg Wx ws B' sl σ H r nx bk ct D0 where
  nb := h.nb
  nx := fun σ' ws' sl' w' H' l e => h.nx σ' ws' sl' w' H' l (e.fewer hB)
  bk := fun σ' ws' sl' w' H' l e => h.bk σ' ws' sl' w' H' l (e.fewer hB)
  ct := fun σ' ws' sl' w' H' l e => h.ct σ' ws' sl' w' H' l (e.fewer hB)
  rt := fun d w' q σ' ws' sl' H' v l e hv => h.rt d w' q σ' ws' sl' H' v l (e.fewer hB) (hv.keep ws'.le_refl (fun _ _ z _ => z) fun a z => .inl (z.imp id (hB a)))
  ex := fun c w' q σ' ws' sl' H' C hC l e => h.ex c w' q σ' ws' sl' H' C hC l (e.fewer hB)
theorem SRs.mono {B B' : Addr → Prop} {vs : List V} {xs : List Sl} {F : List Addr} (hb : ∀ a, B' a → B a) (h : SRs K ws B H vs xs F) : SRs K ws B' H vs xs F := by
  have kd : ∀ {v d}, DR K ws B H v d → DR K ws B' H v d := fun r => r.keep ws.le_refl (fun _ _ z _ => z) fun a z => .inl (hb a z)
  have kds : ∀ {v d}, DRs K ws B H v d → DRs K ws B' H v d := fun r => r.keep ws.le_refl (fun _ _ z _ => z) fun a z => .inl (hb a z)
  induction h with
  | nil => exact .nil
  | va r _ ih => exact .va (kd r) ih
  | @ow p o d _ _ _ hp r _ ih =>
    refine .ow hp ?_ ih
    cases d <;> first
      | exact r.elim
      | (obtain ⟨vs, r1, r2, r3⟩ := r; exact ⟨vs, r1, r2, kds r3⟩)
end
section
variable {X : Cx} {Wx : WX} {e : Expr} {es : List Expr}
theorem mh_nil : PHm X Wx [] (fun _ k => k []) := pa_nil.mimp fun σ H Q ⟨ws, B0, sl, w, k, r0, nx, bk, ct, D0, e, q, h, f⟩ => f ws w H [] [] [] (Le.refl _ _ _) (e.fewer (B0 := fun a => B0 a ∨ a ∈ ([] : List Addr)) fun a z => z.elim id fun q => nomatch q) List.nodup_nil (fun a z => nomatch z) .nil q
theorem mh_va {f : Dn} {r : Hk} (ha : PEm X Wx e f) (hr : PHm X Wx es r) (hs : starEach (e :: es) X.env = (false, eval e X.env) :: starEach es X.env := by rfl) : PHm X Wx (e :: es) (fun sl k => (f sl).bind fun d => r sl fun xs => k (.va d :: xs)) := by
  refine (pa_cons ha hr hs).mimp fun σ H Q ⟨ws, B0, sl, w, k, r0, nx, bk, ct, D0, e, q, h, g⟩ => ?_
  refine ⟨ws, B0, sl, w, e, ?_⟩
  have q : M.bind (f sl) (fun d => r sl fun xs => k (.va d :: xs)) w = r0 := q
  unfold M.bind at q
  cases qf : f sl w with
  | bad => rw [qf] at q; exact absurd q.symm h.nb
  | ex c w1 => rw [qf] at q; exact fun ws' H' C hC l e => h.ex c w1 q.symm σ ws' sl H' C hC l e
  | ok d w1 =>
    rw [qf] at q
    intro ws1 H1 l1 e1 v hv
    refine ⟨ws1, B0, sl, w1, (fun xs => k (.va d :: xs)), r0, nx, bk, ct, D0, e1, q, h.le l1, fun ws' w' H' vs F xs l e' nd hF sr qk => ?_⟩
    have hb : ∀ a, Bad ws' (fun a => B0 a ∨ a ∈ F) sl σ a → Bad ws1 B0 sl σ a ∨ H1 a = none := bad_more (fun a z => z.imp id fun q => (hF a q).1) l
    exact g ws' w' H' (v :: vs) F (.va d :: xs) (l1.trans l) e' nd (fun a ha => ⟨l1.ex a (hF a ha).1, (hF a ha).2⟩) (.va (hv.keep l.wle l.kp hb) sr) qk
theorem mh_ow {f : Dn} {r : Hk} (ha : PFm X Wx e f) (hr : PHm X Wx es r) (hs : starEach (e :: es) X.env = (false, eval e X.env) :: starEach es X.env := by rfl) : PHm X Wx (e :: es) (fun sl k => (f sl).bind fun d => r sl fun xs => k (.ow d :: xs)) := by
  refine (pa_cons ha hr hs).mimp fun σ H Q ⟨ws, B0, sl, w, k, r0, nx, bk, ct, D0, e, q, h, gg⟩ => ?_
  refine ⟨ws, B0, sl, w, e, ?_⟩
  have q : M.bind (f sl) (fun d => r sl fun xs => k (.ow d :: xs)) w = r0 := q
  unfold M.bind at q
  cases qf : f sl w with
  | bad => rw [qf] at q; exact absurd q.symm h.nb
  | ex c w1 => rw [qf] at q; exact fun ws' H' C hC l e => h.ex c w1 q.symm σ ws' sl H' C hC l e
  | ok d w1 =>
    rw [qf] at q
    intro ws1 H1 l1 e1 p o hp ho
    have g := Grow.new (o := o) hp
    have hB : ∀ a, (B0 a ∨ a = p) → B0 a ∨ (upd H1 p o a ≠ none ∧ H1 a = none) := fun a z => z.imp id fun q => by subst q; exact ⟨sm upd_same, hp⟩
    have e2 : Env X.K ws1 (fun a => B0 a ∨ a = p) sl w1 σ (upd H1 p o) := e1.more hB (fun a z => z.imp id fun q => by
      rw [q, upd_same]
      cases d <;> first
        | exact ho.elim
        | (obtain ⟨vs, r1, _⟩ := ho; rw [r1]; trivial)) g
    have lg : Le ws1 (Own sl σ) H1 ws1 (Own sl σ) (upd H1 p o) := g.le _ _
    refine ⟨ws1, (fun a => B0 a ∨ a = p), sl, w1, (fun xs => k (.ow d :: xs)), r0, nx, bk, ct, D0, e2, q, (h.le (l1.trans lg)).moreB fun a z => .inl z, fun ws' w' H' vs F xs l e' nd hF sr qk => ?_⟩
    have npF : p ∉ F := fun z => by have := (hF p z).1; rw [upd_same] at this; cases this
    have nws : ¬ ws'.has p := fun z => by
      rcases l.new p z with q | q
      · exact e1.wd p q hp
      · rw [upd_same] at q; cases q
    have nO : ¬ Own sl σ p := fun z => e1.fresh hp (.inr (.inr z))
    have nB : ¬ B0 p := fun z => e1.dom p z hp
    have hHp : H' p = some o := l.keep p o upd_same (fun z => e1.wd p z hp) nO
    refine gg ws' w' H' (.ref p :: vs) (p :: F) (.ow d :: xs) (l1.trans (lg.trans l)) (e'.fewer fun a z => ?_) (List.nodup_cons.mpr ⟨npF, nd⟩) (fun a ha => ?_) (.ow hHp ?_ (sr.mono fun a z => ?_)) qk
    · rcases z with z | z
      · exact .inl (.inl z)
      · rcases List.mem_cons.mp z with z | z
        · exact .inl (.inr z)
        · exact .inr z
    · rcases List.mem_cons.mp ha with z | z
      · subst z
        exact ⟨l1.ex _ hp, fun z => z.elim nws fun z => z.elim nB nO⟩
      · obtain ⟨z1, z2⟩ := hF a z
        exact ⟨l1.ex a (g.ex a z1), fun q => z2 (q.imp id fun q => q.imp .inl id)⟩
    · have hb : ∀ a, Bad ws' (fun a => B0 a ∨ a ∈ p :: F) sl σ a → Bad ws1 B0 sl σ a ∨ H1 a = none := bad_more (fun a z => z.imp id fun q => by
        rcases List.mem_cons.mp q with q | q
        · rw [q]; exact hp
        · exact g.ex a (hF a q).1) (lg.trans l)
      have kp := (lg.trans l).kp (B0 := B0)
      cases d <;> first
        | exact ho.elim
        | (obtain ⟨vs, r1, r2, r3⟩ := ho; exact ⟨vs, r1, r2, r3.keep (lg.trans l).wle kp hb⟩)
    · rcases z with z | z | z
      · exact .inl z
      · rcases z with z | z
        · exact .inr (.inl (.inl (.inl z)))
        · rcases List.mem_cons.mp z with z | z
          · exact .inr (.inl (.inl (.inr z)))
          · exact .inr (.inl (.inr z))
      · exact .inr (.inr z)
end
def puts : List Nat → List Sl → Ls → Ls
  | i :: is, x :: xs, sl => puts is xs (sl.set i x)
  | _, _, sl => sl
def setV : List Nat → List V → L2.St → L2.St
  | i :: is, v :: vs, σ => setV is vs (σ.set i (some v))
  | _, _, σ => σ
theorem puts_ok {K : PySem.W.Frag} {ws0 : Wa} {sl0 : Ls} {σ0 : L2.St} {H0 : Hp} {ws : Wa} {B0 : Addr → Prop} {H : Hp} : ∀ (is : List Nat) (vs : List V) (xs : List Sl) (F : List Addr) (sl : Ls) (w : W) (σ : L2.St), is.length = xs.length → Le ws0 (Own sl0 σ0) H0 ws (Own sl σ) H → Env K ws (fun a => B0 a ∨ a ∈ F) sl w σ H → F.Nodup →
    (∀ a ∈ F, H0 a = none ∧ ¬ Bad ws B0 sl σ a) → SRs K ws (Bad ws (fun a => B0 a ∨ a ∈ F) sl σ) H vs xs F → Le ws0 (Own sl0 σ0) H0 ws (Own (puts is xs sl) (setV is vs σ)) H ∧ Env K ws B0 (puts is xs sl) w (setV is vs σ) H
  | [], vs, xs, F, sl, w, σ, hl, l, e, nd, hF, sr => by
    cases sr with
    | nil => exact ⟨l, e.fewer fun a z => .inl z⟩
    | va _ _ => cases hl
    | ow _ _ _ => cases hl
  | i :: is, vs0, xs0, F, sl, w, σ, hl, l, e, nd, hF, sr0 => by
   cases sr0 with
   | nil => cases hl
   | @va v d vs xs _ r sr =>
    obtain ⟨l1, e1⟩ := e.put (i := i) r
    have hb : ∀ a, Bad ws (fun a => B0 a ∨ a ∈ F) (sl.set i (.va d)) (σ.set i (some v)) a → Bad ws (fun a => B0 a ∨ a ∈ F) sl σ a := fun a z => z.imp id fun z => z.imp id fun z => by
      obtain ⟨j, dj, h1, h2⟩ := z
      rcases get_set h1 with ⟨_, z, _⟩ | ⟨n, h1⟩
      · cases z
      · rw [List.getElem?_set_ne (Ne.symm n)] at h2
        exact ⟨j, dj, h1, h2⟩
    refine puts_ok is _ _ _ _ _ _ (by simpa using hl) (l.trans l1) e1 nd (fun a ha => ⟨(hF a ha).1, fun z => (hF a ha).2 ?_⟩) (sr.mono hb)
    rcases z with z | z | ⟨j, dj, h1, h2⟩
    · exact .inl z
    · exact .inr (.inl z)
    · rcases get_set h1 with ⟨_, z, _⟩ | ⟨n, h1⟩
      · cases z
      · rw [List.getElem?_set_ne (Ne.symm n)] at h2
        exact .inr (.inr ⟨j, dj, h1, h2⟩)
   | @ow p o d vs xs F hp ho sr =>
    obtain ⟨npF, nd'⟩ := List.nodup_cons.mp nd
    obtain ⟨h0, nb⟩ := hF p List.mem_cons_self
    have e' : Env K ws (fun a => (B0 a ∨ a ∈ F) ∨ a = p) sl w σ H := e.fewer fun a z => by
      rcases z with (z | z) | z
      · exact .inl z
      · exact .inr (List.mem_cons_of_mem _ z)
      · rw [z]; exact .inr List.mem_cons_self
    have nb' : ¬ Bad ws (fun a => B0 a ∨ a ∈ F) sl σ p := fun z => by
      rcases z with z | z | z
      · exact nb (.inl z)
      · rcases z with z | z
        · exact nb (.inr (.inl z))
        · exact npF z
      · exact nb (.inr (.inr z))
    have bb : ∀ a, Bad ws (fun a => (B0 a ∨ a ∈ F) ∨ a = p) sl σ a → Bad ws (fun a => B0 a ∨ a ∈ p :: F) sl σ a := fun a z => z.imp id fun z => z.imp (fun z => by
      rcases z with (z | z) | z
      · exact .inl z
      · exact .inr (List.mem_cons_of_mem _ z)
      · rw [z]; exact .inr List.mem_cons_self) id
    have ho' : ON K ws (Bad ws (fun a => (B0 a ∨ a ∈ F) ∨ a = p) sl σ) H o d := by
      cases d <;> first
        | exact ho.elim
        | (obtain ⟨vs, r1, r2, r3⟩ := ho; exact ⟨vs, r1, r2, r3.keep ws.le_refl (fun _ _ z _ => z) fun a z => .inl (bb a z)⟩)
    obtain ⟨l1, e1⟩ := e'.adopt (i := i) h0 hp nb' l ho'
    have hO : ∀ a, Own (sl.set i (.ow d)) (σ.set i (some (.ref p))) a → Own sl σ a ∨ a = p := fun a ⟨j, dj, h1, h2⟩ => by
      rcases get_set h1 with ⟨rfl, z, hl⟩ | ⟨n, h1⟩
      · rw [List.getElem?_set_self (by rw [← e.len]; exact hl)] at h2
        cases h2; exact .inr rfl
      · rw [List.getElem?_set_ne (Ne.symm n)] at h2
        exact .inl ⟨j, dj, h1, h2⟩
    refine puts_ok is _ _ _ _ _ _ (by simpa using hl) l1 e1 nd' (fun a ha => ⟨(hF a (List.mem_cons_of_mem _ ha)).1, fun z => ?_⟩) (sr.mono fun a z => ?_)
    · rcases z with z | z | z
      · exact (hF a (List.mem_cons_of_mem _ ha)).2 (.inl z)
      · exact (hF a (List.mem_cons_of_mem _ ha)).2 (.inr (.inl z))
      · rcases hO a z with z | z
        · exact (hF a (List.mem_cons_of_mem _ ha)).2 (.inr (.inr z))
        · rw [z] at ha; exact npF ha
    · rcases z with z | z | z
      · exact .inl z
      · rcases z with z | z
        · exact .inr (.inl (.inl z))
        · exact .inr (.inl (.inr (List.mem_cons_of_mem _ z)))
      · rcases hO a z with z | z
        · exact .inr (.inr z)
        · rw [z]; exact .inr (.inl (.inr List.mem_cons_self))
theorem SRs.length {K : PySem.W.Frag} {ws : Wa} {B : Addr → Prop} {H : Hp} {vs : List V} {xs : List Sl} {F : List Addr} (h : SRs K ws B H vs xs F) : vs.length = xs.length := by
  induction h with
  | nil => rfl
  | va _ _ ih => simp [ih]
  | ow _ _ _ ih => simp [ih]
def CntH (n : Nat) (h : Hk) : Prop := ∀ sl k k', (∀ xs, xs.length = n → k xs = k' xs) → h sl k = h sl k'
theorem cnh_nil : CntH 0 (fun _ k => k []) := fun sl k k' h => h [] rfl
theorem cnh_va {n : Nat} {f : Dn} {r : Hk} (h : CntH n r) : CntH (n + 1) (fun sl k => (f sl).bind fun d => r sl fun xs => k (.va d :: xs)) := fun sl k k' q => by
  show M.bind _ _ = M.bind _ _
  congr 1
  funext d
  exact h sl _ _ fun xs hx => q _ (by simp [hx])
theorem cnh_ow {n : Nat} {f : Dn} {r : Hk} (h : CntH n r) : CntH (n + 1) (fun sl k => (f sl).bind fun d => r sl fun xs => k (.ow d :: xs)) := fun sl k k' q => by
  show M.bind _ _ = M.bind _ _
  congr 1
  funext d
  exact h sl _ _ fun xs hx => q _ (by simp [hx])
theorem par_go {K : PySem.W.Frag} {mg : Str → Option Value} {Wx : WX} {is : List Nat} {h : Hk} (hn : CntH is.length h) (D0 : Ends) (σ : L2.St) (H : Hp) (q : tS K mg Wx (fun nx _ _ sl => h sl fun xs => nx (puts is xs sl)) D0 σ H) : tH K mg Wx h σ H (fun vs H' => vs.length = is.length ∧ D0.nx (setV is vs σ) H') := by
  obtain ⟨ws, B0, sl, w, nx, bk, ct, e, q⟩ := q
  have q : Ans K mg Wx ws B0 sl σ H (h sl (fun xs => nx (puts is xs sl)) w) nx bk ct D0 := q
  rw [hn sl (fun xs => nx (puts is xs sl)) (fun xs => if xs.length = is.length then nx (puts is xs sl) else M.bad) fun xs hx => by simp [hx]] at q
  refine ⟨ws, B0, sl, w, _, _, nx, bk, ct, D0, e, rfl, q, fun ws' w' H' vs F xs l e' nd hF sr qk => ?_⟩
  by_cases hx : xs.length = is.length
  · rw [if_pos hx] at qk
    obtain ⟨l2, e2⟩ := puts_ok _ _ _ _ _ _ _ hx.symm l e' nd hF sr
    exact ⟨by rw [sr.length]; exact hx, q.nx _ _ _ _ _ l2 e2 qk⟩
  · rw [if_neg hx] at qk
    exact absurd qk.symm q.nb
section
variable {X : Cx} {Wx : WX} {a b c : Expr} {i j l : Nat} {x y z : Str} {px py pz pt pt2 pos : Pos} {kt k2 : Nat} {h : Hk}
theorem tH_imp {K : PySem.W.Frag} {mg : Str → Option Value} {σ : L2.St} {H : Hp} {Q Q' : List V → Hp → Prop} (q : tH K mg Wx h σ H Q) (f : ∀ vs H', Q vs H' → Q' vs H') : tH K mg Wx h σ H Q' := by
  obtain ⟨ws, B0, sl, w, k, r0, nx, bk, ct, D0, e, q, h, g⟩ := q
  exact ⟨ws, B0, sl, w, k, r0, nx, bk, ct, D0, e, q, h, fun ws' w' H' vs F xs l e' nd hF sr qk => f _ _ (g ws' w' H' vs F xs l e' nd hF sr qk)⟩
theorem ms_par2 (hN : X.N.Nodup) (hi : X.N[i]? = some x) (hj : X.N[j]? = some y) (hij : i ≠ j) (hx : X.env.scope.names.lookup x = some .local) (hy : X.env.scope.names.lookup y = some .local) (ha : PHm X Wx [a, b] h) (hn : CntH 2 h)
    (hw : swappedStores [.Tuple [.Name x px, .Name y py] kt pt] (.Tuple [a, b] k2 pt2) X.env = pure (some [x, y]) := by rfl)
    (hs : swapsWithSole [.Tuple [.Name x px, .Name y py] kt pt] (.Tuple [a, b] k2 pt2) pos.line X.env = pure false := by rfl) (hc : X.calm = true := by rfl) :
    PSm X Wx (.Assign [.Tuple [.Name x px, .Name y py] kt pt] (.Tuple [a, b] k2 pt2) pos) (fun nx _ _ sl => h sl fun xs => nx (puts [i, j] xs sl)) := by
  refine (ps_par hc hN hi hj hij hx hy ha hw hs).mimp fun D0 σ H q => ?_
  refine tH_imp (par_go (is := [i, j]) hn D0 σ H q) fun vs H' ⟨hl, q⟩ => ?_
  match vs, hl with
  | [v, w], _ => exact ⟨v, w, rfl, q⟩
end
end Pm
namespace Pm
open PySem PySem.Spec PyProof.Rows L2


section
variable {X : Cx} {Wx : WX} {a b c e : Expr} {es : List Expr} {pos p p' : Pos} {g : An}
theorem m_len (ha : PArm X Wx [a] g) (hm : X.mg "len" = none) (hg : Gl X "len" := by rfl) (he : starEach [a] X.env = (false, eval a X.env) :: starEach [] X.env := by rfl) : PEm X Wx (.Call (.Name "len" p) [a] [] pos) (fun sl => fCB lenF (g sl)) :=
  m_callB call_len cs_len ct_len hg hm PySem.boot_len ha (by decide) (by decide) he rfl
theorem m_abs (ha : PArm X Wx [a] g) (hm : X.mg "abs" = none) (hg : Gl X "abs" := by rfl) (he : starEach [a] X.env = (false, eval a X.env) :: starEach [] X.env := by rfl) : PEm X Wx (.Call (.Name "abs" p) [a] [] pos) (fun sl => fCB absF (g sl)) :=
  m_callB call_abs cs_abs ct_abs hg hm (by decide +kernel) ha (by decide) (by decide) he rfl
theorem m_sum (hc : X.calm = true) (ha : PArm X Wx [a] g) (hm : X.mg "sum" = none) (hg : Gl X "sum" := by rfl) (he : starEach [a] X.env = (false, eval a X.env) :: starEach [] X.env := by rfl) : PEm X Wx (.Call (.Name "sum" p) [a] [] pos) (fun sl => fCB sumF (g sl)) :=
  m_callB (cr_sum hc) cs_sum ct_sum hg hm (by decide +kernel) ha (by decide) (by decide) he rfl
theorem m_all (hc : X.calm = true) (ha : PArm X Wx [a] g) (hm : X.mg "all" = none) (hg : Gl X "all" := by rfl) (he : starEach [a] X.env = (false, eval a X.env) :: starEach [] X.env := by rfl) : PEm X Wx (.Call (.Name "all" p) [a] [] pos) (fun sl => fCB allF (g sl)) :=
  m_callB (cr_all hc) cs_all ct_all hg hm (by decide +kernel) ha (by decide) (by decide) he rfl
theorem m_tuple (ha : PArm X Wx [a] g) (hm : X.mg "tuple" = none) (hg : Gl X "tuple" := by rfl) (he : starEach [a] X.env = (false, eval a X.env) :: starEach [] X.env := by rfl) : PEm X Wx (.Call (.Name "tuple" p) [a] [] pos) (fun sl => fCB tupF (g sl)) :=
  m_callTy call_tuple_of cs_tup ct_tup hg hm (by decide +kernel) ha (by decide) (by decide) he rfl
theorem m_list (ha : PArm X Wx [a] g) (hm : X.mg "list" = none) (hg : Gl X "list" := by rfl) (he : starEach [a] X.env = (false, eval a X.env) :: starEach [] X.env := by rfl) : PEm X Wx (.Call (.Name "list" p) [a] [] pos) (fun sl => fCB lstF (g sl)) :=
  m_callTy call_list_of cs_lst ct_lst hg hm (by decide +kernel) ha (by decide) (by decide) he rfl
theorem m_max (hc : X.calm = true) (hu : X.A.units + 64 < cLine) (ha : PArm X Wx (e :: es) g) (hm : X.mg "max" = none) (hg : Gl X "max" := by rfl) (he : starEach (e :: es) X.env = (false, eval e X.env) :: starEach es X.env := by rfl) (hpl : (backTo pos (starEach es X.env)).any (·.1) = false := by rfl) : PEm X Wx (.Call (.Name "max" p) (e :: es) [] pos) (fun sl => fCB maxF (g sl)) :=
  m_callB (call_maxM hc hu) cs_big ct_big hg hm (by decide +kernel) ha (by decide) (by decide) he hpl
theorem m_isiN {T : String} {x : Str} {f : Dn} (ha : PRm X Wx a f) (hm : X.mg "isinstance" = none) (hx : X.mg x = none) (hgx : Gl X x) (hb : bootBuiltins x = some (.type T)) (hn : x ≠ "__name__" := by decide) (hd : (x == ("__debug__" : Str)) = false := by decide) (hg : Gl X "isinstance" := by rfl)
    (he : starEach (a :: [.Name x p']) X.env = (false, eval a X.env) :: starEach [.Name x p'] X.env := by rfl) (hpl : (backTo pos (starEach [.Name x p'] X.env)).any (·.1) = false := by rfl)
    (hs : starEach (.Name x p' :: []) X.env = (false, eval (.Name x p') X.env) :: starEach [] X.env := by rfl) : PEm X Wx (.Call (.Name "isinstance" p) [a, .Name x p'] [] pos) (fun sl => fIsi T (f sl)) :=
  m_isi ha hm (pe_bltn hgx hx hb rfl hn hd) hg he hpl hs
end


def newTown : M D := fun w => match w.town with
  | none => .ok .town ⟨some [], w.objs⟩
  | some _ => .bad
def twLen (x : D) : M D := fun w => match x, w.town with
  | .town, some l => .ok (.int l.length) w
  | _, _ => .bad
def twAt0 (x : D) : M D := fun w => match x, w.town with
  | .town, some (k :: _) => .ok (.int k) w
  | _, _ => .bad
def twTru (x : D) : M Bool := fun w => match x, w.town with
  | .town, some l => .ok (!l.isEmpty) w
  | _, _ => .bad
def twApp (x a : D) : M D := fun w => match x, a, w.town with
  | .town, .int k, some l => if l.length < sizeLine then .ok .non ⟨some (l ++ [k]), w.objs⟩ else .bad
  | _, _, _ => .bad
def twSet0 (x a : D) : M D := fun w => match x, a, w.town with
  | .town, .int k, some (_ :: l) => .ok .non ⟨some (k :: l), w.objs⟩
  | _, _, _ => .bad
section
variable {X : Cx} {Wx : WX} {e : Expr} {pos pos' p np apos cpos tpos : Pos} {x : Str} {f : Dn}
theorem town_at {K : PySem.W.Frag} {ws : Wa} {B0 : Addr → Prop} {sl : Ls} {w : W} {σ : L2.St} {H : Hp} {v : V} {B : Addr → Prop} {l : List Int} (e : Env K ws B0 sl w σ H) (hv : DR K ws B H v .town) (hl : w.town = some l) : ∃ a, v = .ref a ∧ ws.town = some a ∧ H a = some (.lst (l.map V.int)) := by
  cases hv with
  | town h =>
    have hw := e.wr.1
    unfold TW at hw
    rw [hl, h] at hw
    exact ⟨_, rfl, h, hw⟩
theorem nVar_at {K : PySem.W.Frag} {mg : Str → Option Value} {ws : Wa} {B0 : Addr → Prop} {sl : Ls} {w : W} {σ : L2.St} {H : Hp} {i : Nat} {α : Type} {g : D → M α} {k : Wa → W → α → Hp → Prop} (e : Env K ws B0 sl w σ H) (h : runAt K mg Wx ws B0 sl σ H (M.bind (nVar i sl) g w) k) : ∃ d v, σ[i]? = some (some v) ∧ DR K ws (Bad ws B0 sl σ) H v d ∧ runAt K mg Wx ws B0 sl σ H (g d w) k := by
  unfold nVar at h
  cases q : sl[i]? with
  | none => rw [q] at h; exact h.elim
  | some z =>
    rw [q] at h
    cases z with
    | no => exact h.elim
    | ow d => exact h.elim
    | va d =>
      obtain ⟨v, h1, h2⟩ := e.va i d q
      exact ⟨d, v, h1, h2, h⟩
theorem ms_town (i : Nat) (hN : X.N.Nodup) (hi : X.N[i]? = some x := by rfl) (hx : L2.Loc X.env.scope x := by first | exact Or.inl rfl | exact Or.inr rfl) (hs : swapsWith (.List [] p) (some (.Name x pos')) pos.line X.env = pure false := by rfl)
    (hf : X.fn x = true ∨ X.env.scope.names.lookup x = some .local := by first | exact .inl rfl | exact .inr rfl) : PSm X Wx (.Assign [.Name x pos'] (.List [] p) pos) (fun nx _ _ sl => newTown.bind fun d => nx (sl.set i (.va d))) := by
  refine (ps_set hN hi hx (pe_lst pa_nil) hs hf).mimp fun D0 σ H ⟨ws, B0, sl, w, nx, bk, ct, e, h⟩ => ?_
  refine ⟨by show 0 ≤ sizeLine; exact Nat.zero_le _, fun p hp => ?_⟩
  have h : Ans X.K X.mg Wx ws B0 sl σ H (M.bind newTown (fun d => nx (sl.set i (.va d))) w) nx bk ct D0 := h
  unfold M.bind newTown at h
  cases q : w.town with
  | some l => rw [q] at h; exact absurd rfl h.nb
  | none =>
    rw [q] at h
    obtain ⟨l1, e1⟩ := e.mkTown q hp
    obtain ⟨l2, e2⟩ := e1.put (i := i) (v := .ref p) (d := .town) (.town rfl)
    exact h.nx _ _ _ _ _ (l1.trans l2) e2 rfl
theorem m_twLen (i : Nat) (hm : X.mg "len" = none) (hN : X.N[i]? = some x := by rfl) (hv : Vis X.env.scope x := by first | exact Or.inl rfl | exact Or.inr (Or.inl rfl) | exact Or.inr (Or.inr rfl)) (hd : (x == ("__debug__" : Str)) = false := by decide)
    (hcd : (x == ("__classdict__" : Str)) = false := by decide) (hg : Gl X "len" := by rfl) (he : starEach [.Name x np] X.env = (false, eval (.Name x np) X.env) :: starEach [] X.env := by rfl) : PEm X Wx (.Call (.Name "len" p) [.Name x np] [] pos) (fun sl => (nVar i sl).bind twLen) := by
  refine (pe_callB call_len hg hm PySem.boot_len (pa_cons (pe_var hN hv hd hcd) pa_nil he) (by decide) (by decide) he rfl).mimp fun σ H Q ⟨ws, B0, sl, w, e, h⟩ => ?_
  obtain ⟨d, v, h1, h2, h⟩ := nVar_at e h
  refine ⟨v, h1, ?_⟩
  cases d <;> first | exact h.elim | skip
  cases q : w.town with
  | none => unfold twLen at h; rw [q] at h; exact h.elim
  | some l =>
    unfold twLen at h
    rw [q] at h
    obtain ⟨a, rfl, ht, hH⟩ := town_at e h2 q
    refine ⟨_, l.length, rfl, .inl ⟨_, .inl (.inl hH), by rw [List.length_map]⟩, runAt.here e h _ (.int _)⟩
theorem m_twAt0 (i : Nat) (hN : X.N[i]? = some x := by rfl) (hv : Vis X.env.scope x := by first | exact Or.inl rfl | exact Or.inr (Or.inl rfl) | exact Or.inr (Or.inr rfl)) (hd : (x == ("__debug__" : Str)) = false := by decide)
    (hcd : (x == ("__classdict__" : Str)) = false := by decide) {j : Nat} {p0 : Pos} (hs : PlainIx (.Constant (.int 0) j p0) := by exact fun _ _ => rfl) : PEm X Wx (.Subscript (.Name x np) (.Constant (.int 0) j p0) pos) (fun sl => (nVar i sl).bind twAt0) := by
  refine (pe_ix ix_seq (pe_var hN hv hd hcd) pe_int hs).mimp fun σ H Q ⟨ws, B0, sl, w, e, h⟩ => ?_
  obtain ⟨d, v, h1, h2, h⟩ := nVar_at e h
  refine ⟨v, h1, ?_⟩
  cases d <;> first | exact h.elim | skip
  cases q : w.town with
  | none => unfold twAt0 at h; rw [q] at h; exact h.elim
  | some l =>
    unfold twAt0 at h
    rw [q] at h
    cases l with
    | nil => exact h.elim
    | cons k l =>
      obtain ⟨a, rfl, ht, hH⟩ := town_at e h2 q
      refine .inl ⟨a, _, 0, .int k, rfl, rfl, .inl (.inl hH), ?_, runAt.here e h _ (.int _)⟩
      rw [List.map_cons]
      simp [atI, ixN]
theorem mt_tw (i : Nat) (hN : X.N[i]? = some x := by rfl) (hv : Vis X.env.scope x := by first | exact Or.inl rfl | exact Or.inr (Or.inl rfl) | exact Or.inr (Or.inr rfl)) (hd : (x == ("__debug__" : Str)) = false := by decide)
    (hcd : (x == ("__classdict__" : Str)) = false := by decide) (he : ∀ whole, isTrue (.Name x np) X.env whole = (do let v ← whole; standAt np; holding [v] (truthy v)) := by intro _; rfl) : PTm X Wx (.Name x np) (fun sl => (nVar i sl).bind twTru) := by
  refine (pt_truth (pe_var hN hv hd hcd) he).mimp fun σ H Q ⟨ws, B0, sl, w, e, h⟩ => ?_
  obtain ⟨d, v, h1, h2, h⟩ := nVar_at e h
  refine ⟨v, h1, ?_⟩
  cases d <;> first | exact h.elim | skip
  cases q : w.town with
  | none => unfold twTru at h; rw [q] at h; exact h.elim
  | some l =>
    unfold twTru at h
    rw [q] at h
    obtain ⟨a, rfl, ht, hH⟩ := town_at e h2 q
    exact ⟨!l.isEmpty, .inl ⟨_, .inl (.inl hH), by cases l <;> rfl⟩, runAt.here e h⟩
theorem ms_twApp (i : Nat) (he : PEm X Wx e f) (hN : X.N[i]? = some x := by rfl) (hv : Vis X.env.scope x := by first | exact Or.inl rfl | exact Or.inr (Or.inl rfl) | exact Or.inr (Or.inr rfl)) (hd : (x == ("__debug__" : Str)) = false := by decide)
    (hcd : (x == ("__classdict__" : Str)) = false := by decide) (hbase : attributeBase (.Name x np) "append" X.env (eval (.Name x np) X.env) = eval (.Name x np) X.env := by rfl)
    (hfew : ((backTo cpos (starEach (e :: []) X.env)).all (fun x => !x.1) && (backToKw cpos (keywordEach [] X.env)).all (fun x => x.1.isSome)
      && decide ((e :: ([] : List Expr)).length + ([] : List Keyword).length + (if ([] : List Keyword).isEmpty then 0 else 1) < 30)) = true := by rfl)
    (hline : (apos.endLine == cpos.line) = true := by rfl) (hs : starEach (e :: []) X.env = (false, eval e X.env) :: starEach [] X.env := by rfl) (hplain : (backTo cpos (starEach [] X.env)).any (·.1) = false := by rfl)
    (hsw : swapsWith (.Call (.Attribute (.Name x np) "append" apos) [e] [] cpos) none pos.line X.env = pure false := by rfl) :
    PSm X Wx (.Expr (.Call (.Attribute (.Name x np) "append" apos) [e] [] cpos) pos) (fun nx _ _ sl => nVaK i sl fun o => (twTru o).bind fun _ => (f sl).bind fun a => (twApp o a).bind fun _ => nx sl) := by
  refine (ps_expr (pe_bm PySem.F.plainAttrs_list PySem.F.slot_list_append PySem.F.type_list_append mt_append (pe_var hN hv hd hcd) (pa_cons he pa_nil hs) hbase hfew hline hs hplain) hsw).mimp fun D0 σ H ⟨ws, B0, sl, w, nx, bk, ct, e, h⟩ => ?_
  obtain ⟨d, hd, h⟩ := nVaK_of h
  obtain ⟨v, h1, h2⟩ := e.va i d hd
  cases d <;> first | exact absurd rfl h.nb | skip
  unfold M.bind twTru at h
  cases q : w.town with
  | none => rw [q] at h; exact absurd rfl h.nb
  | some l =>
    rw [q] at h
    simp only at h
    obtain ⟨a, rfl, ht, hH⟩ := town_at e h2 q
    refine ⟨_, h1, .inl ⟨rfl, _, .inl (.inl hH)⟩, ws, B0, sl, w, e, (Ans.bind (g := fun a => (twApp .town a).bind fun _ => nx sl) h).mono fun ws1 w1 b H1 l1 e1 h3 u hu => ?_⟩
    cases b <;> first | exact absurd rfl h3.nb | skip
    rename_i kk
    unfold M.bind twApp at h3
    cases q1 : w1.town with
    | none => rw [q1] at h3; exact absurd rfl h3.nb
    | some l2 =>
      rw [q1] at h3
      simp only at h3
      by_cases hz : l2.length < sizeLine
      · rw [if_pos hz] at h3
        obtain ⟨a', ha', ht', hH'⟩ := town_at e1 (h2.le l1) q1
        cases ha'
        cases hu
        obtain ⟨l5, e5⟩ := e1.mutTown (l' := l2 ++ [kk]) q1 ht'
        refine ⟨a, _, _, rfl, rfl, hH', by rw [List.length_map]; exact hz, ?_⟩
        have := h3.nx _ _ _ _ _ l5 e5 rfl
        rw [List.map_append] at this
        exact this
      · rw [if_neg hz] at h3
        exact absurd rfl h3.nb
theorem ms_twSet (i : Nat) {j : Nat} {p0 : Pos} (he : PEm X Wx e f) (hN : X.N[i]? = some x := by rfl) (hv : Vis X.env.scope x := by first | exact Or.inl rfl | exact Or.inr (Or.inl rfl) | exact Or.inr (Or.inr rfl)) (hd : (x == ("__debug__" : Str)) = false := by decide)
    (hcd : (x == ("__classdict__" : Str)) = false := by decide)
    (ha : ∀ v, assign (.Subscript (.Name x np) (.Constant (.int 0) j p0) tpos) X.env v = (do
      let ov ← holding [v] (eval (.Name x np) X.env)
      let iv ← holding [v, ov] (eval (.Constant (.int 0) j p0) X.env)
      standAt tpos
      holding [v, ov, iv] (setItem ov iv v)
      release [v, ov, iv] []) := by intro _; rfl)
    (hs : swapsWithSole [.Subscript (.Name x np) (.Constant (.int 0) j p0) tpos] e pos.line X.env = pure false := by rfl) (hw : swappedStores [.Subscript (.Name x np) (.Constant (.int 0) j p0) tpos] e X.env = pure none := by rfl)
    (h1 : (assignEach [.Subscript (.Name x np) (.Constant (.int 0) j p0) tpos] X.env).map (·.2) = [assign (.Subscript (.Name x np) (.Constant (.int 0) j p0) tpos) X.env] := by rfl) :
    PSm X Wx (.Assign [.Subscript (.Name x np) (.Constant (.int 0) j p0) tpos] e pos) (fun nx _ _ sl => (f sl).bind fun a => nVaK i sl fun o => (twSet0 o a).bind fun _ => nx sl) := by
  refine (ps_asg he (pg_sub (pe_var hN hv hd hcd) pe_int set_list ha) hs hw h1).mimp fun D0 σ H ⟨ws, B0, sl, w, nx, bk, ct, e, q⟩ => ?_
  refine ⟨ws, B0, sl, w, e, (Ans.bind q).mono fun ws1 w1 v H1 l1 e1 q1 u hu => ?_⟩
  obtain ⟨d, hd, h3⟩ := nVaK_of q1
  obtain ⟨r, p1, p2⟩ := e1.va i d hd
  refine ⟨r, p1, ?_⟩
  unfold M.bind twSet0 at h3
  cases d <;> first | exact absurd rfl h3.nb | skip
  cases v <;> first | exact absurd rfl h3.nb | skip
  rename_i kk
  cases q2 : w1.town with
  | none => rw [q2] at h3; exact absurd rfl h3.nb
  | some l2 =>
    rw [q2] at h3
    cases l2 with
    | nil => exact absurd rfl h3.nb
    | cons k0 l2 =>
      simp only at h3
      obtain ⟨a', rfl, ht', hH'⟩ := town_at e1 p2 q2
      cases hu
      obtain ⟨l5, e5⟩ := e1.mutTown (l' := kk :: l2) q2 ht'
      refine ⟨a', _, 0, 0, rfl, rfl, hH', by simp [ixN], ?_⟩
      exact h3.nx _ _ _ _ _ l5 e5 rfl
end


def Df (K : PySem.W.Frag) (mg : Str → Option Value) (x : Str) (st : Stmt) (ps : List Str) : Prop := ∃ f fd, Fun K x x st f fd ∧ mg x = some (.ref f) ∧ ∀ us : List Value, us.length = ps.length → bindArgs fd ⟨us, []⟩ = pure (ps.zip us)
def Cal (P : Program) (w : World) (K : PySem.W.Frag) (mg : Str → Option Value) (base : Heap) (k : Nat) (x : Str) (ps : List Str) (m : Mf) : Prop := ∃ f fd, mg x = some (.ref f) ∧ PySem.W.keepIn K (.ref f) = true ∧ Binds K fd ps [] ∧ FnOk P w K mg base (L2.CX P w) k f fd ps (spF K mg ps.length m)
section
variable {P : Program} {w : World} {K : PySem.W.Frag} {mg : Str → Option Value} {base : Heap}
theorem df_mk {x : Str} {st : Stmt} {f : Addr} {h : Heap} {ps : List Str} {oc : Value} {od an : Option Addr} {osl : Array (Option Value)} {kV doc pm cdv ct : Value} (X : K.In h) (G : h.Ns mainGlobals mg) (a : PySem.W.nsIn K mainGlobals x = some (some (.ref f)))
    (l : K.lookup f = some ⟨oc, od, .func (PySem.W.fnOf x x (defArgs st) (defBody st) (defScope st) .none kV doc pm an cdv ct), osl⟩) (c : PySem.W.codeIn K cdv x = true) (k : PySem.W.keepIn K (.ref f) = true)
    (hb : ∀ (kV doc pm : Value) (an : Option Addr) (cdv ct : Value) (us : List Value), us.length = ps.length → bindArgs (PySem.W.fnOf x x (defArgs st) (defBody st) (defScope st) .none kV doc pm an cdv ct) ⟨us, []⟩ = pure (ps.zip us)) : Df K mg x st ps := by
  have F := fun_mk (st := st) l c k
  exact ⟨f, _, F, PySem.W.mg_of X G a, hb _ _ _ _ _ _⟩
abbrev Bdy (P : Program) (w : World) (K : PySem.W.Frag) (mg : Str → Option Value) (base : Heap) (N : List Str) (np : Nat) (x : Str) (st : Stmt) (k : Nat) (m : Mf) : Prop := ∀ (f : Addr) (cdv : Value) (A : Around) (outer : List PySem.Env) (s : Shared) (H : Hp) (E : XK), Room k (A.deeper (envOfC x (defScope st) s.heap.objs.size f cdv)) →
      ∃ b, PSsm (cxOf (L2.CX P w) P w K mg base N x (defScope st) f cdv A outer s H E) (fun cls d _ H => E cls d H) (defBody st) b ∧ ∀ ds : List D, ds.length = np → runB b N.length ds = m ds
theorem fn_okX {x qual : Str} {st : Stmt} {f : Addr} {fd : FuncData} {N ps : List Str} {k : Nat} {m : Mf} (F : Fun K x qual st f fd) (Sc : FnScope N ps (defScope st))
    (hbody : ∀ (cdv : Value) (A : Around) (outer : List PySem.Env) (s : Shared) (H : Hp) (E : XK), Room k (A.deeper (envOfC qual (defScope st) s.heap.objs.size f cdv)) →
      ∃ b, PSsm (cxOf (L2.CX P w) P w K mg base N qual (defScope st) f cdv A outer s H E) (fun cls d _ H => E cls d H) (defBody st) b ∧ ∀ ds : List D, ds.length = ps.length → runB b N.length ds = m ds) : FnOk P w K mg base (L2.CX P w) (k + 1) f fd ps (spF K mg ps.length m) := by
  refine F.okX Sc (fun vs H Q E h => h.1) fun cdv A outer s H vs Q E hr h => ?_
  obtain ⟨b, hb, hm⟩ := hbody cdv A outer s H E hr
  refine ⟨_, hb, ?_⟩
  obtain ⟨hl, ws, B0, w1, ds, hw, hwd, hd, r, h⟩ := h
  obtain ⟨nO, e⟩ := env_start (N := N) hw hwd hd r
  rw [← hm ds (by rw [← r.length]; exact hl)] at h
  have po : ∀ {σ' : L2.St} {ws' : Wa} {sl' : Ls} {H' : Hp}, Le ws (Own (slStart N.length ds) (L2.start N vs)) H ws' (Own sl' σ') H' → Post ws H ws' H' := fun l =>
    ⟨l.wle, l.new, fun _ z => z.elim, fun a o h1 h2 _ => l.keep a o h1 h2 (nO a), l.ex⟩
  refine ⟨ws, B0, _, w1, fun _ => M.pure .non, fun _ => M.bad, fun _ => M.bad, e, ⟨fun z => ?_, ?_, ?_, ?_, ?_, ?_⟩⟩
  · have z : runB b N.length ds w1 = .bad := z
    rw [z] at h
    exact h
  · intro σ' ws' sl' w' H' l e' q
    have q : runB b N.length ds w1 = .ok .non w' := q.symm
    rw [q] at h
    exact h .non ws' H' (po l) e'.wr .non
  · intro σ' ws' sl' w' H' l e' q
    have q : runB b N.length ds w1 = .bad := q.symm
    rw [q] at h
    exact h.elim
  · intro σ' ws' sl' w' H' l e' q
    have q : runB b N.length ds w1 = .bad := q.symm
    rw [q] at h
    exact h.elim
  · intro d w' q σ' ws' sl' H' v l e' hv
    have q : runB b N.length ds w1 = .ok d w' := q
    rw [q] at h
    exact h v ws' H' (po l) e'.wr hv
  · intro c w' q σ' ws' sl' H' C hC l e'
    have q : runB b N.length ds w1 = .ex c w' := q
    rw [q] at h
    exact h ws' H' C hC (po l) e'.wr
theorem cal_of {x : Str} {st : Stmt} {N ps : List Str} {k np : Nat} {m : Mf} (F : Df K mg x st ps) (Sc : FnScope N ps (defScope st)) (hp : ps.length = np) (hbody : Bdy P w K mg base N np x st k m) : Cal P w K mg base (k + 1) x ps m := by
  obtain ⟨f, fd, F, hg, hb⟩ := F
  subst hp
  exact ⟨f, fd, hg, F.kp, .all hb, fn_okX F Sc (hbody f)⟩
theorem Cal.mono {j k : Nat} {x : Str} {ps : List Str} {m : Mf} (h : Cal P w K mg base j x ps m) (l : j ≤ k) : Cal P w K mg base k x ps m := by
  obtain ⟨f, fd, h1, h2, h3, h4⟩ := h
  exact ⟨f, fd, h1, h2, h3, h4.mono l⟩

def recF (b : Mf → Mf) : Nat → Mf
  | 0 => fun _ => M.bad
  | k + 1 => b (recF b k)
theorem cal_none {x : Str} {st : Stmt} {ps : List Str} {k : Nat} (F : Df K mg x st ps) : Cal P w K mg base k x ps (fun _ => M.bad) := by
  obtain ⟨f, fd, F, hg, hb⟩ := F
  exact ⟨f, fd, hg, F.kp, .all hb, ⟨fun vs H Q E h => h.1, fun A outer s H args us vs Q E hr he hb hv hs => by
    obtain ⟨_, _, _, _, _, _, _, _, _, z⟩ := hs
    exact z.elim⟩⟩
theorem cal_rec {x : Str} {st : Stmt} {N ps : List Str} {np d : Nat} {b : Mf → Mf} (F : Df K mg x st ps) (Sc : FnScope N ps (defScope st)) (hp : ps.length = np)
    (hbody : ∀ j : Nat, Cal P w K mg base (d + j) x ps (recF b j) → Bdy P w K mg base N np x st (d + j) (b (recF b j))) : ∀ j : Nat, Cal P w K mg base (d + j) x ps (recF b j)
  | 0 => cal_none F
  | j + 1 => cal_of F Sc hp (hbody j (cal_rec F Sc hp hbody j))
end
section
variable {X : Cx} {Wx : WX} {e : Expr} {es : List Expr} {pos p : Pos} {x : Str} {g : An}
theorem m_cal {k np : Nat} {ps : List Str} {m : Mf} (C : Cal X.prog X.w X.K X.mg X.base k x ps m) (hp : ps.length = np) (hr : Room k X.A) (tk : Takes X Wx) (ha : PAm X Wx (e :: es) g) (hn : Cnt np g)
    (hg : Gl X x := by rfl) (hdb : (x == ("__debug__" : Str)) = false := by decide) (he : starEach (e :: es) X.env = (false, eval e X.env) :: starEach es X.env := by rfl) (hpl : (backTo pos (starEach es X.env)).any (·.1) = false := by rfl) :
    PEm X Wx (.Call (.Name x p) (e :: es) [] pos) (fun sl => fCall m (g sl)) := by
  obtain ⟨f, fd, h1, h2, h3, h4⟩ := C
  subst hp
  exact m_call h4 hn hr h1 h2 h3 tk ha hg hdb he hpl
end


def TBs (K : PySem.W.Frag) (mg : Str → Option Value) (base : Heap) : Prop := ∀ x ∈ makers, ∀ p, codeTab K x.1 = some p → LamX.TabB base mg p.1 p.2
def spLaw (K : PySem.W.Frag) : Sp := fun vs H Q _ => ∃ (a : Addr) (ns : List Int), vs = [.ref a] ∧ SqL K H a (ns.map V.int) ∧ ns.length ≤ 63 ∧ LamX.Tabs (tabsK K) H ∧ ∀ H', Q (.bl true) H'
theorem law_of {P : Program} {w : World} {K : PySem.W.Frag} {mg : Str → Option Value} {fa : Addr} {k : Nat} {x : Str} {m : Mf} {N : List Str} {st : Stmt} (hfa : mg "law" = some (.ref fa)) (F : Df K mg "law" st [x]) (Sc : FnScope N [x] (defScope st))
    (hm : ∀ ns : List Int, ns.length ≤ 63 → ∃ w', m [.scr ns] ⟨none, []⟩ = .ok (.bl true) w')
    (hbody : ∀ base : Heap, K.In base → base.Ns mainGlobals mg → TBs K mg base → Bdy P w K mg base N 1 "law" st k m) :
    ∃ fd : FuncData, (∀ (s : Shared) (u : Value), BindsTo s fd ⟨[u], []⟩ [(x, u)]) ∧ ∀ base : Heap, K.In base → base.Ns mainGlobals mg → TBs K mg base → FnOk P w K mg base (L2.CX P w) (k + 1) fa fd [x] (spLaw K) := by
  obtain ⟨f, fd, F, hg, hb⟩ := F
  cases hfa.symm.trans hg
  refine ⟨fd, fun s u => .of_eq (hb [u] rfl), fun base hB hG hTB => (fn_okX (m := m) F Sc (hbody base hB hG hTB fa)).imp fun vs H Q E h => ?_⟩
  obtain ⟨a, ns, rfl, hS, hl, hT, q⟩ := h
  obtain ⟨w', hw⟩ := hm ns hl
  have nT : ∀ {u : HO}, Rd H a u → (∀ ps, u ≠ .tbl ps) → a ∉ (tabsK K).map (·.1) := fun {u} r n z => by
    obtain ⟨p, hp, rfl⟩ := List.mem_map.mp z
    obtain ⟨ps, h1, _⟩ := hT p hp
    rcases r with r | ⟨o, r⟩
    · rw [h1] at r; cases r; exact n _ rfl
    · rw [h1] at r; cases r
  refine ⟨rfl, ⟨none, (tabsK K).map (·.1), []⟩, fun _ => False, ⟨none, []⟩, [.scr ns], ⟨trivial, ⟨rfl, hT⟩, ⟨rfl, (fun _ _ z => by simp at z), (fun _ z => by simp at z), (fun _ _ _ z => by simp at z), fun _ z => nomatch z⟩⟩, fun a z => z.elim, fun a z => z.elim, .cons (.scr ns ?_) .nil, ?_⟩
  · rcases hS with hS | hS
    · exact .inl ⟨fun z => z.elim (fun z => z.elim (fun z => nomatch z) (fun z => z.elim (nT hS fun ps z => by cases z) fun z => nomatch z)) id, hS⟩
    · exact .inr hS
  · rw [hw]
    intro v ws' H' _ _ hd
    cases hd
    exact q H'

section
variable {X : Cx} {Wx : WX} {pos : Pos} {x : Str}
inductive VD (K : PySem.W.Frag) : List Value → List D → Prop
  | nil : VD K [] []
  | int {i : Int} {t : Tok} {us : List Value} {ds : List D} : VD K us ds → VD K (.int i t :: us) (.int i :: ds)
  | str {x : Str} {t : Tok} {us : List Value} {ds : List D} : VD K us ds → VD K (.str x t :: us) (.str x :: ds)
end

def isND : D → D → Option D
  | x, .non => (match x with | .non => some (.bl true) | .town => none | .fn _ _ _ => none | .obj _ => none | .exc _ => none | .kt _ => none | _ => some (.bl false))
  | _, _ => none
def isNND : D → D → Option D
  | x, .non => (match x with | .non => some (.bl false) | .town => none | .fn _ _ _ => none | .obj _ => none | .exc _ => none | .kt _ => none | _ => some (.bl true))
  | _, _ => none
theorem isN_dec {K : PySem.W.Frag} {ws : Wa} {B : Addr → Prop} {H : Hp} {x : V} {dx : D} (hx : DW K ws B H x dx) : decide (x = .non) = (match dx with | .non => true | _ => false) := by
  cases dx <;> first
    | (have e : x = _ := hx; subst e; rfl)
    | (obtain ⟨_, a, _, rfl, _⟩ := hx; rfl)
    | (obtain ⟨a, _, rfl, _⟩ := hx; rfl)
    | (obtain ⟨a, rfl, _⟩ := hx; rfl)
    | exact hx.elim
theorem so_isN {K : PySem.W.Frag} : OpS K (fun x y H Q => y = .non ∧ Q (.bl (decide (x = .non))) H) isND := by
  intro ws B H x y dx dy d Q hb hx hy ho q
  cases dy <;> first | (cases ho; done) | skip
  refine ⟨hy, ?_⟩
  rw [isN_dec hx]
  cases dx <;> first | (cases ho; done) | (cases ho; exact q _ _ (Grow.refl H) (.bl _))
theorem ot_isN : OpT isND := fun x y d h => by cases x <;> cases y <;> first | exact ⟨rfl, rfl⟩ | cases h

abbrev bmVE : List Value := [.type "ValueError", .type "Exception", .type "BaseException", .type "object"]
def Xk (K : PySem.W.Frag) (mg : Str → Option Value) (x : Str) : Prop := ∃ C : Addr, mg x = some (.ref C) ∧ PySem.W.excIn K C bmVE "ValueError.__new__" = true ∧ PySem.W.keepIn K (.ref C) = true ∧ PySem.W.subIn K (.ref C) (.type "BaseException") = some true ∧ PySem.W.typeIn K (.ref C) = some (.type "type")
def Xm (K : PySem.W.Frag) (mg : Str → Option Value) (x y : Str) (b : Bool) : Prop := ∃ C E : Addr, mg x = some (.ref C) ∧ mg y = some (.ref E) ∧ PySem.W.exmOne K (.ref E) (.ref C) = some b
section
variable {X : Cx} {Wx : WX} {pos p pos' np : Pos} {x : Str}
theorem ms_raiseX (c : Xk X.K X.mg x) (tk : Takes X Wx) (hc : X.calm = true := by rfl) (hg : Gl X x := by rfl) (hdb : (x == ("__debug__" : Str)) = false := by decide) : PSm X Wx (.Raise (some (.Call (.Name x p) [] [] pos)) none pos') (fun _ _ _ _ => M.raise x) := by
  obtain ⟨C, h1, h2, h3, h4, h5⟩ := c
  exact ms_raise PySem.F.excBase_ValueError h2 h1 h3 (raises_own h4 h5) tk hc hg hdb
theorem xm_nil {K : PySem.W.Frag} {mg : Str → Option Value} : ∀ y k, ([] : List (Str × Bool)).lookup y = some k → Xm K mg x y k := fun _ _ h => by cases h
theorem xm_cons {K : PySem.W.Frag} {mg : Str → Option Value} {y : Str} {b : Bool} {T : List (Str × Bool)} (h : Xm K mg x y b) (r : ∀ y k, T.lookup y = some k → Xm K mg x y k) : ∀ z k, ((y, b) :: T).lookup z = some k → Xm K mg x z k := fun z k e => by
  rw [List.lookup_cons] at e
  split at e
  · rename_i hz
    cases e
    rw [eq_of_beq hz]
    exact h
  · exact r z k e
theorem xk_mk {K : PySem.W.Frag} {mg : Str → Option Value} {h : Heap} {C : Addr} (X : K.In h) (G : h.Ns mainGlobals mg) (a : PySem.W.nsIn K mainGlobals x = some (some (.ref C))) (e : PySem.W.excIn K C bmVE "ValueError.__new__" = true) (k : PySem.W.keepIn K (.ref C) = true) (s : PySem.W.subIn K (.ref C) (.type "BaseException") = some true) (t : PySem.W.typeIn K (.ref C) = some (.type "type")) : Xk K mg x :=
  ⟨C, PySem.W.mg_of X G a, e, k, s, t⟩
theorem xm_mk {K : PySem.W.Frag} {mg : Str → Option Value} {h : Heap} {y : Str} {b : Bool} {C E : Addr} (X : K.In h) (G : h.Ns mainGlobals mg) (a : PySem.W.nsIn K mainGlobals x = some (some (.ref C))) (a' : PySem.W.nsIn K mainGlobals y = some (some (.ref E))) (e : PySem.W.exmOne K (.ref E) (.ref C) = some b) : Xm K mg x y b :=
  ⟨C, E, PySem.W.mg_of X G a, PySem.W.mg_of X G a', e⟩
end
end Pm
namespace Pm
open PySem PySem.Spec PyProof.Rows L2


section
variable {X : Cx} {Wx : WX} {a b e : Expr} {pos pos' p : Pos} {x : Str}
theorem msv {f : Dn} (i : Nat) (hN : X.N.Nodup) (he : PEm X Wx e f) (hi : X.N[i]? = some x := by rfl) (hx : L2.Loc X.env.scope x := by first | exact Or.inl rfl | exact Or.inr rfl) (hs : swapsWith e (some (.Name x pos')) pos.line X.env = pure false := by rfl)
    (hf : X.fn x = true ∨ X.env.scope.names.lookup x = some .local := by first | exact .inl rfl | exact .inr rfl) : PSm X Wx (.Assign [.Name x pos'] e pos) (fun nx _ _ sl => (f sl).bind fun d => nx (sl.set i (.va d))) := ms_set hN hi hx he hs hf
end


def fTry {α : Type} (T : List (Str × Bool)) (m : M D) (k : D → M α) (mh : M D) (kh : D → M α) : M α := fun w => match m w with
  | .ok a w' => k a w'
  | .ex c w' => (match T.lookup c with
    | some true => (noEx mh).bind kh w'
    | some false => .ex c w'
    | none => .bad)
  | .bad => .bad
def tB1 (K : PySem.W.Frag) (mg : Str → Option Value) (i : Nat) (m : Dn) (Wx : WX) : TS := fun D0 σ H => tE K mg Wx m σ H fun v H' => D0.nx (σ.set i (some v)) H'
abbrev PB1 (X : Cx) (Wx : WX) (i : Nat) (body : List Stmt) (m : Dn) : Prop := PSs X body (tB1 X.K X.mg i m Wx)
section
variable {X : Cx} {Wx : WX} {a b e c : Expr} {pos pos' p np : Pos} {x y : Str} {i : Nat} {m m' mh : Dn}
theorem pb_set (hN : X.N.Nodup) (he : PEm X Wx e m) (hi : X.N[i]? = some x := by rfl) (hx : L2.Loc X.env.scope x := by first | exact Or.inl rfl | exact Or.inr rfl) (hs : swapsWith e (some (.Name x pos')) pos.line X.env = pure false := by rfl)
    (hf : X.fn x = true ∨ X.env.scope.names.lookup x = some .local := by first | exact .inl rfl | exact .inr rfl) : PB1 X Wx i [.Assign [.Name x pos'] e pos] m := (pss_one (ps_set hN hi hx he hs hf)).mimp fun D0 σ H h => h
theorem noEx_run {K : PySem.W.Frag} {mg : Str → Option Value} {ws : Wa} {B0 : Addr → Prop} {sl : Ls} {w : W} {σ : L2.St} {H : Hp} {nx bk ct : Kn} {D0 : Ends} {mh : M D} {kh : D → M D} (h : Ans K mg Wx ws B0 sl σ H (M.bind (noEx mh) kh w) nx bk ct D0) : runAt K mg W0 ws B0 sl σ H (mh w) fun ws' w' a H' => Ans K mg Wx ws' B0 sl σ H' (kh a w') nx bk ct D0 := by
  unfold M.bind noEx at h
  cases q : mh w with
  | bad => rw [q] at h; exact absurd rfl h.nb
  | ex c w1 => rw [q] at h; exact absurd rfl h.nb
  | ok a w1 => rw [q] at h; exact fun ws' H' l e => h.le l
theorem ms_try1 {T : List (Str × Bool)} {body : List Stmt} {b₀ : Stmt} {j : Nat} (cx : Xk X.K X.mg x) (hT : ∀ y k, T.lookup y = some k → Xm X.K X.mg x y k) (tk : Takes X Wx)
    (hb : ∀ (W : WX) (pn : List (Addr × Obj)) (xe : Value → Shared → Prop), Takes (X.tr pn xe) W → PassesOwn (model X.prog X.w) X.A X.env xe → PB1 (X.tr pn xe) W i body m)
    (hsu : ∀ (a : Addr) (oe : Obj) (pn : List (Addr × Obj)), PB1 (X.suite a ((a, oe) :: pn)) W0 j [b₀] mh) (hs : X.stack = X.env :: X.outer := by rfl) (hf : X.env.frame = some X.env.locals := by rfl) (hg : Gl X x := by rfl) (hdb : (x == ("__debug__" : Str)) = false := by decide) :
    PSm X Wx (.Try body [.ExceptHandler (some (.Name x np)) none [b₀] pos'] [] [] pos) (fun nx _ _ sl => fTry T (m sl) (fun d => nx (sl.set i (.va d))) (mh sl) (fun d => nx (sl.set j (.va d)))) := by
  obtain ⟨C0, hx, _⟩ := cx
  refine (ps_try_only (c := .ref C0) (Wout := Wx) hs hf ⟨hg, hdb, .inl hx⟩ tk (tb := fun W => tB1 X.K X.mg i m W) (ts := fun _ _ _ => tB1 X.K X.mg j mh W0) hb (fun a oe cls d pn _ _ => hsu a oe pn)).mimp fun D0 σ H ⟨ws, B0, sl, w, nx, bk, ct, e, q⟩ => ?_
  refine ⟨ws, B0, sl, w, e, ?_⟩
  have q : Ans X.K X.mg Wx ws B0 sl σ H (fTry T (m sl) (fun d => nx (sl.set i (.va d))) (mh sl) (fun d => nx (sl.set j (.va d))) w) nx bk ct D0 := q
  unfold fTry at q
  cases qm : m sl w with
  | bad => rw [qm] at q; exact absurd rfl q.nb
  | ok d w1 =>
    rw [qm] at q
    intro ws1 H1 l1 e1 v hv
    obtain ⟨l2, e2⟩ := e1.put (i := i) hv
    exact q.nx _ _ _ _ _ (l1.trans l2) e2 rfl
  | ex c w1 =>
    rw [qm] at q
    simp only at q
    intro ws' H' C hC l e'
    cases qT : T.lookup c with
    | none => rw [qT] at q; exact absurd rfl q.nb
    | some k =>
      rw [qT] at q
      obtain ⟨C1, E1, g1, g2, g3⟩ := hT c k qT
      rw [hx] at g1
      cases g1
      rw [hC] at g2
      cases g2
      refine ⟨k, g3, fun hk a _ => ?_, fun hk => ?_⟩
      · subst hk
        refine ⟨ws', B0, sl, w1, e', (noEx_run (q.le l)).mono fun ws2 w2 d H2 l2 e2 h2 v hv => ?_⟩
        obtain ⟨l3, e3⟩ := e2.put (i := j) hv
        exact h2.nx _ _ _ _ _ l3 e3 rfl
      · subst hk
        exact q.ex c w1 rfl σ ws' sl H' C hC l e'
end
end Pm

namespace Pm
open PySem PySem.Spec PyProof.Rows L2 RZ PySem.W

structure Ap (z TI TO i1 i2 : Addr) (f1 f2 : List Addr) : Prop where
  TIz : TI ≠ z
  TOz : TO ≠ z
  i1z : i1 ≠ z
  i2z : i2 ≠ z
  TITO : TI ≠ TO
  TIi1 : TI ≠ i1
  TIi2 : TI ≠ i2
  TOi1 : TO ≠ i1
  TOi2 : TO ≠ i2
  i12 : i1 ≠ i2
  z1 : z ∉ f1
  o1 : TO ∉ f1
  j1 : i2 ∉ f1
  z2 : z ∉ f2
  o2 : TO ∉ f2
  j2 : i1 ∉ f2
section
variable {prog : Program} {w : World} {A : Around} {E : Value → Shared → Prop} {s : Shared} {z TI TO i1 i2 : Addr} {f1 f2 : List Addr} {n1 n2 k : Nat} {P1 P2 : Nat → Value → Prop} {S1 S2 : Nat → Heap → Prop}
def ZSt (lo z TI TO i1 i2 : Addr) (S1 S2 : Nat → Heap → Prop) (k : Nat) (h : Heap) : Prop := IsPair h TI (.ref i1) (.ref i2) ∧ S1 k h ∧ S2 k h ∧
  ((k = 0 ∧ IsZip h z TI TO .none ∧ ∃ a b, IsPair h TO a b) ∨ ∃ T f oT, IsZipHeld h z TI TO T f ∧ h.get? T = some oT ∧ T ≠ z ∧ T ≠ i1 ∧ T ≠ i2 ∧ T ≠ TO ∧ lo < T)
end
end Pm
namespace Pm
open PySem PySem.Spec PyProof.Rows L2 RZ PySem.W

structure PairsAt (P1 P2 : Nat → Value → Prop) (lo : Addr) (h : Heap) (as : List Addr) : Prop where
  rise : as.Pairwise (· < ·)
  above : ∀ a ∈ as, lo < a
  pairs : ∀ (j : Nat) (a : Addr), as[j]? = some a → ∃ x y, P1 j x ∧ P2 j y ∧ h.get? a = some { cls := .type "tuple", data := .seq #[x, y] }
theorem PairsAt.there {P1 P2 : Nat → Value → Prop} {lo : Addr} {h : Heap} {as : List Addr} (g : PairsAt P1 P2 lo h as) {a : Addr} (ha : a ∈ as) : a < h.objs.size := by
  obtain ⟨j, hj⟩ := List.mem_iff_getElem?.mp ha
  obtain ⟨_, _, _, _, e⟩ := g.pairs j a hj
  exact Heap.lt_size e
theorem PairsAt.keep {P1 P2 : Nat → Value → Prop} {lo : Addr} {h h' : Heap} {as : List Addr} (g : PairsAt P1 P2 lo h as) (k : ∀ b o, lo < b → h.get? b = some o → h'.get? b = some o) : PairsAt P1 P2 lo h' as :=
  ⟨g.rise, g.above, fun j a hj => let ⟨x, y, h1, h2, e⟩ := g.pairs j a hj; ⟨x, y, h1, h2, k a _ (g.above a (List.mem_of_getElem? hj)) e⟩⟩
structure Lt5 (S z TI TO i1 i2 : Addr) (f1 f2 : List Addr) : Prop where
  z : z < S
  TI : TI < S
  TO : TO < S
  i1 : i1 < S
  i2 : i2 < S
  f1 : ∀ b ∈ f1, b < S
  f2 : ∀ b ∈ f2, b < S
section
variable {prog : Program} {w : World} {A : Around} {E : Value → Shared → Prop} {s : Shared} {R : Result → Shared → Prop} {z TI TO i1 i2 : Addr} {f1 f2 : List Addr} {n1 n2 : Nat} {P1 P2 : Nat → Value → Prop} {S1 S2 : Nat → Heap → Prop}
theorem ZSt.keep {k : Nat} {h h' : Heap} {S : Addr} (D1 : Draws prog w A i1 f1 n1 P1 S1) (D2 : Draws prog w A i2 f2 n2 P2 S2) (st : ZSt S z TI TO i1 i2 S1 S2 k h) (L : Lt5 S z TI TO i1 i2 f1 f2) (kp : ∀ b o, b ≠ S → h.get? b = some o → h'.get? b = some o) : ZSt S z TI TO i1 i2 S1 S2 k h' := by
  obtain ⟨hTI, h1, h2, st⟩ := st
  refine ⟨kp _ _ (Nat.ne_of_lt L.TI) hTI, D1.frame _ _ _ h1 fun b hb o e => kp b o (Nat.ne_of_lt (L.f1 b hb)) e, D2.frame _ _ _ h2 fun b hb o e => kp b o (Nat.ne_of_lt (L.f2 b hb)) e, ?_⟩
  rcases st with ⟨e, hz, a, b, hTO⟩ | ⟨T, f, oT, hz, hT, t⟩
  · exact .inl ⟨e, kp _ _ (Nat.ne_of_lt L.z) hz, a, b, kp _ _ (Nat.ne_of_lt L.TO) hTO⟩
  · exact .inr ⟨T, f, oT, kp _ _ (Nat.ne_of_lt L.z) hz, kp _ _ (Nat.ne_of_gt t.2.2.2.2) hT, t⟩
end
end Pm
namespace Pm
open PySem PySem.Spec PyProof.Rows L2 RZ PySem.W

section
variable {fs ex : List Addr} {H H' : Hp} {h h' : Heap}
theorem Un.more (k : ∀ b u, h.get? b = some u → h'.get? b = some u) (g : ∀ b u, H b = some u → H' b = some u) (n : ∀ b u, H' b = some u → H b = some u ∨ h.objs.size ≤ b) : Un fs ex H H' h h' where
  keep := fun b u q _ _ _ => k b u q
  slot := fun b u q _ _ _ => ⟨u.slots, k b u q⟩
  free := fun b u q nb _ => by
    cases e : H' b with
    | none => rfl
    | some o =>
      rcases n b o e with z | z
      · rw [nb] at z; cases z
      · exact absurd (Heap.lt_size q) (Nat.not_lt.mpr z)
  there := fun b u q _ => ⟨u, k b u q⟩
  tups := fun b xs q => g b _ q
  frzs := fun b u xs q => g b _ q
  tbls := fun b ps q => ⟨#[], by rw [g b _ q]; simp⟩
theorem Inv.more {X : Cx} {pins : List (Addr × Obj)} {σ : L2.St} {s : Shared} {t' : Nat} (I : Inv X pins σ H s) (k : ∀ b u, s.heap.get? b = some u → h'.get? b = some u) (g : ∀ b u, H b = some u → H' b = some u)
    (n : ∀ b u, H' b = some u → H b = some u ∨ (s.heap.objs.size ≤ b ∧ ObjOk X.prog X.w H' h' b u)) : Inv X pins σ H' { s with heap := h', toks := t' } := by
  refine I.un (Un.more k g fun b u e => (n b u e).imp id fun z => z.1) fun b u e => ?_
  rcases n b u e with z | z
  · exact (I.hok b u z).stay (fun c v _ q => k c v q) (fun c q => g c _ q) fun c xs q => g c _ q
  · exact z.2
end
theorem PairsAt.lt {P1 P2 : Nat → Value → Prop} {lo : Addr} {h : Heap} {as : List Addr} (g : PairsAt P1 P2 lo h as) : as.Nodup := g.rise.imp fun h => Nat.ne_of_lt h

def fLz (g : M (List D)) : M D := g.bind fun l => match l with
  | [x, y] => (M.opt (zipD x y)).bind fun l => M.pure (.lst l)
  | _ => M.bad
end Pm
namespace Pm
open PySem PySem.Spec PyProof.Rows L2 RZ



def enumL : Nat → List D → List D
  | _, [] => []
  | n, x :: xs => .tup [.int n, x] :: enumL (n + 1) xs
def enumD : D → Option (List D)
  | .tup a => some (enumL 0 a)
  | .lst a => some (enumL 0 a)
  | _ => none
section
variable {K : PySem.W.Frag} {ws : Wa} {B : Addr → Prop} {H : Hp}
end
def fEnum (g : M (List D)) : M (List D) := g.bind fun l => match l with
  | [x] => M.opt (enumD x)
  | _ => M.bad
end Pm
namespace Pm
open PySem PySem.Spec PyProof.Rows L2 RZ


def inDs (x : D) (l : List D) : Bool := l.any fun z => deq z x
def inD (x y : D) : Option D := match y with
  | .tup l => if okd 40 x = true ∧ l.all (okd 39) = true then some (.bl (inDs x l)) else none
  | .lst l => if okd 40 x = true ∧ l.all (okd 39) = true then some (.bl (inDs x l)) else none
  | _ => none
def rInT (K : PySem.W.Frag) : R2 := fun x y H Q => ∃ d ds, Dp K H x d ∧ Dp K H y (.tuple ds) ∧ SeqAt.shaped d = true ∧ SeqAt.shaped (.tuple ds) = true ∧ Q (.bl (ds.any fun z => PyData.eqv z d)) H
theorem op_inT {X : Cx} (hu : X.A.units + 65 < cLine) : OpR X (compareOp .In) (rInT X.K) := by
  intro pins s σ H x y v u Q I rx ry h
  obtain ⟨d, ds, hd, he, sd, se, q⟩ := h
  obtain ⟨as, r1⟩ := Dp.reads I d x v hd rx
  obtain ⟨bs, r2⟩ := Dp.reads I (.tuple ds) y u he ry
  exact SeqAt.in_tuple_reads r2 r1 (SeqAt.canLay_of_shaped se) (SeqAt.canLay_of_shaped sd) (room_in_shaped sd hu) ⟨.bl _, H, I, rfl, q⟩
def rInM (K : PySem.W.Frag) : R2 := fun x y H Q => rInD K x y H Q ∨ rInT K x y H Q
theorem op_inM {X : Cx} (hu : X.A.units + 65 < cLine) : OpR X (compareOp .In) (rInM X.K) := (op_inD hu).or (op_inT hu)
theorem okd_up : ∀ {n : Nat} {x : D}, okd n x = true → okd (n + 1) x = true := by
  intro n
  induction n with
  | zero => intro x h; cases x <;> first | exact h | (simp [okd] at h; done) | rfl
  | succ n ih =>
    intro x h
    cases x with
    | tup l => rw [okd] at h ⊢; exact List.all_eq_true.mpr fun y hy => ih (List.all_eq_true.mp h y hy)
    | lst l => rw [okd] at h ⊢; exact List.all_eq_true.mpr fun y hy => ih (List.all_eq_true.mp h y hy)
    | _ => first | exact h | (simp [okd] at h; done)
theorem any_of {x : D} (hx : okd 40 x = true) : ∀ l : List D, l.all (okd 39) = true → ((toPys l).any fun z => PyData.eqv z (toPy x)) = inDs x l
  | [], _ => rfl
  | y :: l, h => by
    rw [List.all_cons, Bool.and_eq_true] at h
    have hy : okd 40 y = true := okd_up h.1
    rw [toPys, List.any_cons, deq_of 40 y x hy hx, any_of hx l h.2]; rfl
section
variable {K : PySem.W.Frag}
theorem so_in : OpS K (rInM K) inD := by
  intro ws B H x y dx dy d Q hb hx hy ho q
  cases dy <;> first
    | (simp [inD] at ho; done)
    | skip
  · rename_i l
    simp only [inD] at ho
    split at ho
    · rename_i hc
      cases ho
      have hl : okd 40 (.tup l) = true := by rw [okd]; exact hc.2
      refine .inr ⟨_, toPys l, dw_dp hc.1 hx, dw_dp hl hy, shaped_of hc.1 (by decide), shaped_of hl (by decide), ?_⟩
      rw [any_of hc.1 l hc.2]
      exact q _ _ (Grow.refl H) (.bl _)
    · cases ho
  · rename_i l
    simp only [inD] at ho
    split at ho
    · rename_i hc
      cases ho
      have hl : okd 40 (.lst l) = true := by rw [okd]; exact hc.2
      refine .inl ⟨_, toPys l, dw_dp hc.1 hx, dw_dp hl hy, shaped_of hc.1 (by decide), shaped_of hl (by decide), ?_⟩
      rw [any_of hc.1 l hc.2]
      exact q _ _ (Grow.refl H) (.bl _)
    · cases ho
end
theorem un65 {k : Nat} {A : Around} (h : Room k A) : A.units + 65 < cLine := by have := h.un; omega
theorem ot_in : OpT inD := fun x y d h => by
  cases y <;> first
    | (simp [inD] at h; done)
    | skip
  all_goals
    simp only [inD] at h
    split at h
    · rename_i hc
      exact ⟨rdb_ok hc.1, rfl⟩
    · cases h
end Pm
namespace Pm
open PySem PySem.Spec PyProof.Rows L2 RZ


section
variable {X : Cx} {e : Expr} {es : List Expr}
variable {te : L2.St → Hp → (Int → Int → Nat → Hp → Prop) → Prop}
end
end Pm
namespace Pm
open PySem PySem.Spec PyProof.Rows L2 RZ


section
variable {X : Cx}
end
end Pm
namespace Pm
open PySem PySem.Spec PyProof.Rows L2 RZ


def valD (es : List (Key × D)) (k : Key) : Option D := (es.find? fun kv => decide (kv.1 = k)).map (·.2)
def putD (es : List (Key × D)) (k : Key) (d : D) : List (Key × D) := if (es.any fun kv => decide (kv.1 = k)) then es.map (fun kv => if kv.1 = k then (kv.1, d) else kv) else es ++ [(k, d)]
def mergeD (es more : List (Key × D)) : List (Key × D) := more.foldl (fun acc kv => putD acc kv.1 kv.2) es
def keyD : D → Option Key
  | .str x => some (.inr x)
  | .int i => some (.inl i)
  | _ => none
def dgD (x y : D) : Option D := match x with
  | .dk es => (keyD y).bind fun k => valD es k
  | _ => none
section
variable {K : PySem.W.Frag} {ws : Wa} {B : Addr → Prop} {H : Hp} {v : V} {d : D} {k : Key}
def KR (K : PySem.W.Frag) (ws : Wa) (B : Addr → Prop) (H : Hp) (kvs : List (Key × V)) (es : List (Key × D)) : Prop := kvs.map (·.1) = es.map (·.1) ∧ DRs K ws B H (kvs.map (·.2)) (es.map (·.2))
theorem KR.cons_of {p : Key × V} {kvs : List (Key × V)} {q : Key × D} {es : List (Key × D)} (h : KR K ws B H (p :: kvs) (q :: es)) : p.1 = q.1 ∧ DR K ws B H p.2 q.2 ∧ KR K ws B H kvs es := by
  obtain ⟨h1, h2⟩ := h
  simp only [List.map_cons, List.cons.injEq] at h1 h2
  cases h2 with | cons a b => exact ⟨h1.1, a, h1.2, b⟩
theorem KR.cons {p : Key × V} {kvs : List (Key × V)} {q : Key × D} {es : List (Key × D)} (h1 : p.1 = q.1) (h2 : DR K ws B H p.2 q.2) (h : KR K ws B H kvs es) : KR K ws B H (p :: kvs) (q :: es) :=
  ⟨by simp only [List.map_cons, h1, h.1], .cons h2 h.2⟩
theorem KR.val : ∀ {kvs : List (Key × V)} {es : List (Key × D)}, KR K ws B H kvs es → valD es k = some d → ∃ v, valV kvs k = some v ∧ DR K ws B H v d
  | [], [], _, e => by cases e
  | [], _ :: _, h, _ => by have := h.1; simp at this
  | _ :: _, [], h, _ => by have := h.1; simp at this
  | p :: kvs, q :: es, h, e => by
    obtain ⟨h1, h2, h3⟩ := h.cons_of
    unfold valD at e
    rw [List.find?_cons] at e
    by_cases z : q.1 = k
    · rw [decide_eq_true z] at e
      cases e
      exact ⟨p.2, valV_pos (h1.trans z), h2⟩
    · rw [decide_eq_false z] at e
      rw [valV_neg (by rw [h1]; exact z)]
      exact KR.val h3 e
theorem KR.len {kvs : List (Key × V)} {es : List (Key × D)} (h : KR K ws B H kvs es) : kvs.length = es.length := by have := congrArg List.length h.1; simpa using this
theorem KR.any {kvs : List (Key × V)} {es : List (Key × D)} (h : KR K ws B H kvs es) : (kvs.any fun kv => decide (kv.1 = k)) = es.any fun kv => decide (kv.1 = k) := by
  have e : ∀ {β : Type} (l : List (Key × β)), (l.any fun kv => decide (kv.1 = k)) = (l.map (·.1)).any fun z => decide (z = k) := fun l => by rw [List.any_map]; rfl
  rw [e, e, h.1]
theorem KR.rep : ∀ {kvs : List (Key × V)} {es : List (Key × D)}, KR K ws B H kvs es → DR K ws B H v d → KR K ws B H (kvs.map fun kv => if kv.1 = k then (kv.1, v) else kv) (es.map fun kv => if kv.1 = k then (kv.1, d) else kv)
  | [], [], _, _ => ⟨rfl, .nil⟩
  | [], _ :: _, h, _ => by have := h.1; simp at this
  | _ :: _, [], h, _ => by have := h.1; simp at this
  | p :: kvs, q :: es, h, hd => by
    obtain ⟨h1, h2, h3⟩ := h.cons_of
    rw [List.map_cons, List.map_cons]
    refine .cons ?_ ?_ (KR.rep h3 hd)
    · rw [h1]; split
      · rfl
      · exact h1
    · rw [h1]; split
      · exact hd
      · exact h2
theorem KR.put {kvs : List (Key × V)} {es : List (Key × D)} (h : KR K ws B H kvs es) (hd : DR K ws B H v d) : KR K ws B H (putK kvs k v) (putD es k d) := by
  unfold putK putD
  rw [h.any]
  split
  · exact h.rep hd
  · refine ⟨by simp [h.1], ?_⟩
    rw [List.map_append, List.map_append]
    exact h.2.append (.one hd)
theorem KR.merge : ∀ {more : List (Key × V)} {ms : List (Key × D)} {kvs : List (Key × V)} {es : List (Key × D)}, KR K ws B H more ms → KR K ws B H kvs es → KR K ws B H (mergeK kvs more) (mergeD es ms)
  | [], [], _, _, _, h => h
  | [], _ :: _, _, _, h, _ => by have := h.1; simp at this
  | _ :: _, [], _, _, h, _ => by have := h.1; simp at this
  | p :: more, q :: ms, kvs, es, h, h' => by
    obtain ⟨h1, h2, h3⟩ := h.cons_of
    have : KR K ws B H (putK kvs p.1 p.2) (putD es q.1 q.2) := by rw [h1]; exact h'.put h2
    exact KR.merge (more := more) (ms := ms) h3 this
theorem key_of' {y : D} {u : V} (h : keyD y = some k) (r : DW K ws B H u y) : u = kV k := by
  cases y <;> cases h
  · exact r
  · exact r
end


def del (H : Hp) (p : Addr) : Hp := fun a => if a = p then none else H a
theorem del_ne {H : Hp} {p a : Addr} (h : a ≠ p) : del H p a = H a := if_neg h
section
variable {K : PySem.W.Frag} {ws : Wa} {B0 B' : Addr → Prop} {sl : Ls} {w : W} {σ : L2.St} {H : Hp} {p : Addr}
theorem Env.drop (e : Env K ws B' sl w σ H) (hB : ∀ a, B0 a → B' a) (hp : B' p) (hn : ¬ B0 p) (hw : ¬ ws.has p) (hx : BxO (H p)) : Env K ws B0 sl w σ (del H p) := by
  have hk : ∀ a o, H a = some o → ¬ Bad ws B' sl σ a → del H p a = some o := fun a o h n => by rw [del_ne (fun z => n (.inr (.inl (by rw [z]; exact hp))))]; exact h
  have hb : ∀ a, Bad ws B0 sl σ a → Bad ws B' sl σ a ∨ H a = none := fun a z => .inl (z.imp id fun q => q.imp (hB a) id)
  have hne : ∀ {i : Nat} {d : D} {a : Addr}, sl[i]? = some (.ow d) → σ[i]? = some (some (.ref a)) → a ≠ p := fun {i d a} h1 h2 z => by
    obtain ⟨b, q1, _, _, q4⟩ := e.ow i d h1
    rw [h2] at q1
    cases q1
    exact q4 (by rw [z]; exact hp)
  refine ⟨e.len, ?_, fun a h => ?_, fun a h => ?_, fun i d h => ?_, fun i d h => ?_, e.uq⟩
  · refine ⟨?_, e.wr.2.keep (fun a o h z => by rw [del_ne (fun q => hw (by rw [← q]; exact z))]; exact h) (fun a φ h => by rw [del_ne (fun q => hx.nx φ (by rw [← q]; exact h))]; exact h), e.wr.3.keep (fun a xs z => ?_) fun a o z l => by rw [del_ne (fun q => hw (by rw [← q]; exact .inr (.inr l)))]; exact z⟩
    case refine_2 =>
      have n : a ≠ p := fun q => by subst q; exact hx.nt z
      rw [del_ne n]; exact z
    have q := e.wr.1
    unfold TW at q ⊢
    split
    · trivial
    · rename_i l t e1 e2
      rw [e1, e2] at q
      rw [del_ne (fun z => hw (.inl (by rw [← z]; exact e2)))]
      exact q
    · rename_i h1 h2
      split at q
      · rename_i e1 e2; exact h1 e1 e2
      · rename_i e1 e2; exact h2 _ _ e1 e2
      · exact q
  · rw [del_ne (fun z => hn (by rw [← z]; exact h))]; exact e.bx a (hB a h)
  · rw [del_ne (fun z => hn (by rw [← z]; exact h))]; exact e.dom a (hB a h)
  · obtain ⟨v, q1, q2⟩ := e.va i d h
    exact ⟨v, q1, q2.keep ws.le_refl hk hb⟩
  · obtain ⟨a, q1, q2, q3, q4⟩ := e.ow i d h
    refine ⟨a, q1, ?_, q3, fun z => q4 (hB a z)⟩
    have hne' := hne h q1
    cases d <;> first
      | exact q2.elim
      | (obtain ⟨vs, r1, r2, r3⟩ := q2; exact ⟨vs, by rw [del_ne hne']; exact r1, r2, r3.keep ws.le_refl hk hb⟩)
end


def tP (K : PySem.W.Frag) (mg : Str → Option Value) (Wx : WX) (ks : List Str) (g : An) : L2.St → Hp → (List (V × V) → Hp → Prop) → Prop := fun σ H Q => ∃ ws B0 sl w, Env K ws B0 sl w σ H ∧ runAt K mg Wx ws B0 sl σ H (g sl w) fun ws' _ ds H' => ds.length = ks.length ∧ ∀ vs, DRs K ws' (Bad ws' B0 sl σ) H' vs ds → Q ((ks.map V.str).zip vs) H'
structure PPm (X : Cx) (Wx : WX) (pos : Pos) (keys : List (Option Expr)) (values : List Expr) (ks : List Str) (g : An) : Prop where
  get : ∃ trs, PPs X pos keys values trs ∧ ∀ σ H Q, tP X.K X.mg Wx ks g σ H Q → tPairs trs σ H Q
section
variable {X : Cx} {Wx : WX} {pos : Pos} {keys : List (Option Expr)} {values : List Expr} {ks : List Str} {g : An}
theorem m_ofF {e : Expr} {f : Dn} (h : PFm X Wx e f) : PEm X Wx e f := by
  refine h.mimp fun σ H Q ⟨ws, B0, sl, w, e, h⟩ => ⟨ws, B0, sl, w, e, ?_⟩
  cases q : f sl w with
  | bad => rw [q] at h; exact h
  | ex c w1 => rw [q] at h; exact h
  | ok d w1 =>
    rw [q] at h
    intro ws1 H1 l1 e1 p o hp ho
    have g := Grow.new (o := o) hp
    have nB : ¬ Bad ws1 B0 sl σ p := e1.fresh hp
    refine h ws1 (upd H1 p o) (l1.trans (g.le _ _)) (e1.grow g) (.ref p) ?_
    cases d <;> first | exact ho.elim | skip
    · obtain ⟨vs, rfl, r2, r3⟩ := ho; exact .lst r2 nB upd_same (r3.grow g)
    · obtain ⟨vs, rfl, r2, r3⟩ := ho; exact .dk nB upd_same r2 (r3.grow g)
    · obtain ⟨vs, rfl, r2, r3⟩ := ho; exact .dt nB upd_same r2 (r3.grow g)


theorem m_dget {o i : Expr} {f gi : Dn} (hu : X.A.units + 64 < cLine) (ho : PRm X Wx o f) (hi : PRm X Wx i gi) (hs : NoSl i := by exact fun _ _ => rfl) : PEm X Wx (.Subscript o i pos) (fun sl => fBin dgD (f sl) (gi sl)) := by
  refine (pe_dget (by omega) ho hi hs).mimp fun σ H Q ⟨ws, B0, sl, w, e, h⟩ => ?_
  refine ⟨ws, B0, sl, w, e, (runAt.bind h).mono fun ws1 w1 x H1 l1 e1 h1 v hv => ?_⟩
  refine ⟨ws1, B0, sl, w1, e1, (runAt.bind h1).mono fun ws2 w2 y H2 l2 e2 h2 u hu => ?_⟩
  obtain ⟨d, q3, h3⟩ := runAt.opt h2
  unfold dgD at q3
  cases x <;> first | (cases q3; done) | skip
  rename_i es
  cases qk : keyD y with
  | none => rw [qk] at q3; cases q3
  | some k =>
    rw [qk] at q3
    have q3 : valD es k = some d := q3
    obtain ⟨a, kvs, rfl, r1, r2, r3⟩ := e2.rv (RV.le l2 hv) rfl
    have hy : rdb y = true := by cases y <;> first | rfl | cases qk
    have := key_of' qk (e2.rv hu hy)
    subst this
    obtain ⟨v', z1, z2⟩ := KR.val (kvs := kvs) ⟨r2, r3⟩ q3
    exact ⟨a, v', rfl, by rw [← z1]; exact .k r1, runAt.here e2 h3 v' z2⟩
end


section
variable {X : Cx} {Wx : WX} {o e : Expr} {pos np apos cpos : Pos} {x : Str} {i : Nat} {f : Dn}
end


section
variable {X : Cx} {Wx : WX} {pos p : Pos} {x : Str}
end
end Pm
namespace Pm
open PySem PySem.Spec PyProof.Rows L2 RZ


section
variable {prog : Program} {w : World} {A : Around} {E : Value → Shared → Prop} {s : Shared}
theorem sliceApplied_rev {sl : Addr} {vs : Value} {n : Nat} {Q : Int × Int × Nat → Shared → Prop} (hs : s.heap.IsSliceOf sl .none .none vs) (ps : IsPart vs (some (-1)))
    (h : Q ((n : Int) - 1, -1, n) s) : wpAny (model prog w) A (Builtin.Slice.sliceApplied (.ref sl) (pure (n : Int))) Q E s := by
  obtain ⟨os, hos, hcs, hds⟩ := id hs
  unfold Builtin.Slice.sliceApplied Builtin.Slice.sliceFields
  refine wpAny_bind (wpAny_bind (wpAny_field hos hds (x := .none) rfl (wpAny_bind (wpAny_field hos hds (x := .none) rfl (wpAny_bind (wpAny_field hos hds (x := vs) rfl (wpAny_pure ?_)))))))
  refine wpAny_bind (HT.slicePart_ ps ?_)
  show wpAny _ _ (if ((-1 : Int) == 0) = true then _ else _) _ _ s
  rw [if_neg (by decide)]
  refine wpAny_bind (HT.slicePart_ .none (wpAny_bind (HT.slicePart_ .none (wpAny_bind (wpAny_pure ?_)))))
  show wpAny _ _ (match Builtin.Slice.sliceAdjust none none (-1) (n : Int) with | (lo, hi) => pure (lo, (-1 : Int), Builtin.Slice.slicePlaces lo hi (-1))) _ _ s
  have e : Builtin.Slice.sliceAdjust none none (-1) (n : Int) = ((n : Int) - 1, -1) := by
    first | rfl | simp [Builtin.Slice.sliceAdjust]
  rw [e]
  have e2 : Builtin.Slice.slicePlaces ((n : Int) - 1) (-1) (-1) = n := by
    unfold Builtin.Slice.slicePlaces
    simp
    omega
  show wpAny _ _ (pure ((n : Int) - 1, (-1 : Int), Builtin.Slice.slicePlaces ((n : Int) - 1) (-1) (-1))) _ _ s
  rw [e2]
  exact wpAny_pure h
theorem pick_rev (xs : Array Value) : ((List.range xs.size).filterMap fun (m : Nat) => xs[((xs.size : Int) - 1 + (m : Int) * (-1)).toNat]?).toArray = xs.toList.reverse.toArray := by
  congr 1
  have e : (List.range xs.size).filterMap (fun (m : Nat) => xs[((xs.size : Int) - 1 + (m : Int) * (-1)).toNat]?) = ((List.range xs.size).map (fun k => xs.size - 1 - k)).filterMap (xs[·]?) := by
    rw [List.filterMap_map]
    congr 1
    funext m
    have : ((xs.size : Int) - 1 + (m : Int) * (-1)).toNat = xs.size - 1 - m := by omega
    rw [this]; rfl
  rw [e, PySem.W.krv_range, List.filterMap_reverse, PySem.W.krv_all]
theorem getItem_tuple_rev {t sl : Addr} {items : Array Value} {vs : Value} {Q : Value → Shared → Prop} (ht : IsTup s.heap t items) (hs : s.heap.IsSliceOf sl .none .none vs) (ps : IsPart vs (some (-1)))
    (h : Q (.ref s.heap.objs.size) { s with heap := s.heap.push { cls := .type "tuple", data := .seq items.toList.reverse.toArray } })
    (hsz : items.size ≤ sizeLine) : wpAny (model prog w) A (getItem (.ref t) (.ref sl)) Q E s := by
  have htake : sizeOk (.seq items.toList.reverse.toArray) := by
    show items.toList.reverse.toArray.size ≤ sizeLine
    rw [List.size_toArray, List.length_reverse, Array.length_toList]
    omega
  obtain ⟨os, hos, hcs, hds⟩ := id hs
  have hTs : s.TypeIs (.ref sl) "slice" := ⟨os, hos, hcs⟩
  unfold getItem
  try with_reducible refine wpAny_holding ?_
  first | refine wpAny_bind (wpAny_pure ?_) | skip
  refine wpAny_bind (wpAny_sequenceKey ht.typeIs (by decide) ?_)
  refine wpAny_bind (wpAny_callSpecial?_slot (name := Str.ofString "__getitem__") ht.typeIs PyProof.Rows.slot_tuple_getitem
    (wpAny_call_entry PyProof.Rows.slot_tuple_getitem ht.typeIs entry_tuple_getitem ?_ (args_tuple_getitem _ _)))
  show wpAny _ _ (Builtin.Tuple.tupleItemsOf (.ref t) >>= _) _ _ s
  refine wpAny_bind (tupleItemsOf_ ht ?_)
  refine wpAny_bind (wpAny_typeOf hTs ?_)
  rw [if_pos (by decide)]
  refine wpAny_bind (sliceApplied_rev hs ps ?_)
  have hno : ¬ (((items.size : Int) - 1 == 0 && (-1 : Int) == 1 && items.size == items.size) = true) := by simp
  show wpAny _ _ (if ((items.size : Int) - 1 == 0 && (-1 : Int) == 1 && items.size == items.size) = true then _ else _) _ _ s
  rw [if_neg hno, pick_rev]
  first
    | exact wpAny_bind (m := Builtin.Tuple.tupleExact _) (wpAny_newObj_type (wpAny_pure ⟨_, rfl, wpAny_pure h⟩) htake)
    | exact wpAny_bind (m := Builtin.Tuple.tupleExact _) (wpAny_newObj_type (wpAny_bind (wpAny_pure (wpAny_pure ⟨_, rfl, wpAny_pure h⟩))) htake)
    | exact wpAny_bind (wpAny_bind (m := Builtin.Tuple.tupleExact _) (wpAny_newObj_type (wpAny_pure (wpAny_pure ⟨_, rfl, wpAny_pure h⟩)) htake))
    | exact wpAny_bind (wpAny_bind (m := Builtin.Tuple.tupleExact _) (wpAny_newObj_type (wpAny_pure ⟨_, rfl, wpAny_pure h⟩) htake))
end

section
variable {X : Cx}
def tRev (K : PySem.W.Frag) (te : TE) : TE := fun σ H Q => te σ H fun x H1 => (∃ a xs, x = .ref a ∧ SqL K H1 a xs ∧ ∀ p, H1 p = none → Q (.ref p) (upd H1 p (.lst xs.reverse))) ∨ ∃ a xs, x = .ref a ∧ SqT K H1 a xs ∧ ∀ p, H1 p = none → Q (.ref p) (upd H1 p (.tup xs.reverse))
theorem pe_rev {e : Expr} {te : TE} {k : Nat} {p1 p2 p3 pos : Pos} (he : PE X e te) : PE X (.Subscript e (.Slice none none (some (.UnaryOp .USub (.Constant (.int 1) k p1) p2)) p3) pos) (tRev X.K te) := by
  refine ⟨fun pins s σ H Q I h => ?_⟩
  refine Subscript_ (thn (he.run pins s σ H _ I h) fun v s1 ⟨x, H1, I1, r1, q1⟩ => ?_)
  have hst : PO X (some (.UnaryOp .USub (.Constant (.int 1) k p1) p2)) (tPart (tUn (rU fun i => .int (-i)) (tC (.int 1)))) := po_some (pe_un un_neg pe_int)
  rcases q1 with ⟨a, xs, ex, hx, q⟩ | ⟨a, xs, ex, hx, q⟩
  · subst ex
    cases r1
    refine wpAny_Slice (thn (po_none.run pins s1 σ H1 (fun o H2 => o = none ∧ H2 = H1) I1 ⟨rfl, rfl⟩) fun vl s2 ⟨l, H2, I2, pl, el, e2⟩ => ?_)
    subst el e2
    refine thn (po_none.run pins s2 σ H2 (fun o H3 => o = none ∧ H3 = H2) I2 ⟨rfl, rfl⟩) fun vu s3 ⟨u, H3, I3, pu, eu, e3⟩ => ?_
    subst eu e3
    refine thn (hst.run pins s3 σ H3 (fun o H4 => o = some (-1) ∧ H4 = H3) I3 ⟨1, rfl, -1, rfl, rfl, rfl⟩) fun vs s4 ⟨o, H4, I4, ps, eo, e4⟩ => ?_
    subst eo e4
    have I5 : Inv X pins σ H4 { s4 with heap := s4.heap.push { cls := .type "slice", data := .fields #[vl, vu, vs] } } := I4.kept (t' := s4.toks) fun b ob q => Heap.get?_push_of_some _ q
    obtain ⟨its, r, ht, hz⟩ := I5.list hx
    have hlen := r.length
    show wpAny (model X.prog X.w) X.A (subscriptTail e (.Slice none none (some (.UnaryOp .USub (.Constant (.int 1) k p1) p2)) p3) (.ref a) (.ref s4.heap.objs.size)) (EP X pins σ Q) X.xe { s4 with heap := s4.heap.push { cls := .type "slice", data := .fields #[vl, vu, vs] } }
    refine tail_any (ops := [.ref a, .ref s4.heap.objs.size]) ht.isList.typeIs (PySem.slot_list_getitem.lookup) ?_ (by with_unfolding_all rfl)
    refine wpAny_getItem_list_slice ht.isList (Heap.IsSliceOf.new _ vl vu vs) pl pu ps (by decide) ?_ (by rw [List.size_toArray]; omega)
    rw [PySem.W.krv_pick]
    refine ⟨.ref _, _, I5.laid (t' := s4.toks) (o := .lst xs.reverse) (fun b ob q => Heap.get?_push_of_some _ q) (Nat.le_refl _) ?_, rfl, q _ (I5.hok.fresh (Nat.le_refl _))⟩
    exact ⟨by rw [List.length_reverse]; exact hz, _, 0, r.reverse, Heap.get?_push_size _ rfl⟩
  · subst ex
    cases r1
    refine wpAny_Slice (thn (po_none.run pins s1 σ H1 (fun o H2 => o = none ∧ H2 = H1) I1 ⟨rfl, rfl⟩) fun vl s2 ⟨l, H2, I2, pl, el, e2⟩ => ?_)
    subst el e2
    refine thn (po_none.run pins s2 σ H2 (fun o H3 => o = none ∧ H3 = H2) I2 ⟨rfl, rfl⟩) fun vu s3 ⟨u, H3, I3, pu, eu, e3⟩ => ?_
    subst eu e3
    refine thn (hst.run pins s3 σ H3 (fun o H4 => o = some (-1) ∧ H4 = H3) I3 ⟨1, rfl, -1, rfl, rfl, rfl⟩) fun vs s4 ⟨o, H4, I4, ps, eo, e4⟩ => ?_
    subst eo e4
    have I5 : Inv X pins σ H4 { s4 with heap := s4.heap.push { cls := .type "slice", data := .fields #[vl, vu, vs] } } := I4.kept (t' := s4.toks) fun b ob q => Heap.get?_push_of_some _ q
    obtain ⟨its, r, ht, hz⟩ := I5.tuple hx
    have hlen := r.length
    cases pl
    cases pu
    show wpAny (model X.prog X.w) X.A (subscriptTail e (.Slice none none (some (.UnaryOp .USub (.Constant (.int 1) k p1) p2)) p3) (.ref a) (.ref s4.heap.objs.size)) (EP X pins σ Q) X.xe { s4 with heap := s4.heap.push { cls := .type "slice", data := .fields #[.none, .none, vs] } }
    refine tail_any (ops := [.ref a, .ref s4.heap.objs.size]) ht.typeIs (PyProof.Rows.slot_tuple_getitem.lookup) ?_ (by with_unfolding_all rfl)
    refine getItem_tuple_rev ht (Heap.IsSliceOf.new _ .none .none vs) ps ?_ (by rw [List.size_toArray]; omega)
    refine ⟨.ref _, _, I5.laid (t' := s4.toks) (o := .tup xs.reverse) (fun b ob q => Heap.get?_push_of_some _ q) (Nat.le_refl _) ?_, rfl, q _ (I5.hok.fresh (Nat.le_refl _))⟩
    exact ⟨by rw [List.length_reverse]; exact hz, _, r.reverse, IsTup.new _ _⟩
def revD : D → Option D
  | .tup l => some (.tup l.reverse)
  | .lst l => some (.lst l.reverse)
  | _ => none
def fRev (x : M D) : M D := x.bind fun d => M.opt (revD d)
theorem m_rev {Wx : WX} {e : Expr} {f : Dn} {k : Nat} {p1 p2 p3 pos : Pos} (he : PRm X Wx e f) : PEm X Wx (.Subscript e (.Slice none none (some (.UnaryOp .USub (.Constant (.int 1) k p1) p2)) p3) pos) (fun sl => fRev (f sl)) := by
  refine (pe_rev he).mimp fun σ H Q ⟨ws, B0, sl, w, e, h⟩ => ?_
  refine ⟨ws, B0, sl, w, e, (runAt.bind h).mono fun ws1 w1 d H1 l1 e1 h1 v hv => ?_⟩
  obtain ⟨d', q, h2⟩ := runAt.opt h1
  cases d <;> cases q
  · obtain ⟨z, a, vs, rfl, t, r⟩ := e1.rv hv rfl
    refine .inr ⟨a, vs, rfl, t.sq, fun p hp => runAt.grow (Grow.new hp) e1 h2 _ ?_⟩
    exact .tup (by rw [List.length_reverse]; exact z) (.inl ⟨e1.fresh hp, upd_same⟩) ((r.reverse).grow (Grow.new hp))
  · obtain ⟨z, a, vs, rfl, t, r⟩ := e1.rv hv rfl
    refine .inl ⟨a, vs, rfl, .inl (.inl t), fun p hp => runAt.grow (Grow.new hp) e1 h2 _ ?_⟩
    exact .lst (by rw [List.length_reverse]; exact z) (e1.fresh hp) upd_same ((r.reverse).grow (Grow.new hp))
end


section
variable {K : PySem.W.Frag}
end
section
variable {X : Cx} {Wx : WX} {a : Expr} {pos p : Pos} {g : An}
end


section
variable {K : PySem.W.Frag}
end
section
variable {X : Cx} {Wx : WX} {a : Expr} {pos p : Pos} {g : An}
end
end Pm
namespace Pm
open PySem PySem.Spec PyProof.Rows L2 RZ

theorem cnt_c4 {n : Nat} {a b c d : Dn} {g : An} (h : Cnt n g) : Cnt (n + 4) (fun sl => fCons (a sl) (fCons (b sl) (fCons (c sl) (fCons (d sl) (g sl))))) := cnt_cons (f := a) (cnt_cons (f := b) (cnt_cons (f := c) (cnt_cons (f := d) h)))
end Pm
namespace Pm
open PySem PySem.Spec PyProof.Rows L2 RZ

section
variable {X : Cx}
theorem op_add_bi : OpR X (binaryOp .Add) (fun x y H Q => ∃ (k : Bool) (i : Int), x = .bl k ∧ y = .int i ∧ Q (.int ((if k = true then 1 else 0) + i)) H) := by
  intro pins s σ H x y v u Q I rx ry h
  obtain ⟨k, i, rfl, rfl, q⟩ := h
  obtain ⟨t, rfl⟩ := ry
  cases rx
  exact PySem.IntBool.add_bool_int ⟨.int _, H, I.tok _, ⟨_, rfl⟩, q⟩
theorem op_sub_bi : OpR X (binaryOp .Sub) (fun x y H Q => ∃ (k : Bool) (i : Int), x = .bl k ∧ y = .int i ∧ Q (.int ((if k = true then 1 else 0) - i)) H) := by
  intro pins s σ H x y v u Q I rx ry h
  obtain ⟨k, i, rfl, rfl, q⟩ := h
  obtain ⟨t, rfl⟩ := ry
  cases rx
  exact PySem.IntBool.sub_bool_int ⟨.int _, H, I.tok _, ⟨_, rfl⟩, q⟩
end
def addB (x y : D) : Option D := match x, y with
  | .bl k, .int i => some (.int ((if k = true then 1 else 0) + i))
  | .int i, .int j => some (.int (i + j))
  | _, _ => none
def subB (x y : D) : Option D := match x, y with
  | .bl k, .int i => some (.int ((if k = true then 1 else 0) - i))
  | .int i, .int j => some (.int (i - j))
  | _, _ => none
section
variable {K : PySem.W.Frag}
def rAddB : R2 := fun x y H Q => rI0 (fun i j => .int (i + j)) x y H Q ∨ (∃ (k : Bool) (i : Int), x = .bl k ∧ y = .int i ∧ Q (.int ((if k = true then 1 else 0) + i)) H)
def rSubB : R2 := fun x y H Q => rI0 (fun i j => .int (i - j)) x y H Q ∨ (∃ (k : Bool) (i : Int), x = .bl k ∧ y = .int i ∧ Q (.int ((if k = true then 1 else 0) - i)) H)
theorem op_addB {X : Cx} : OpR X (binaryOp .Add) rAddB := op_add.or op_add_bi
theorem op_subB {X : Cx} : OpR X (binaryOp .Sub) rSubB := op_sub.or op_sub_bi
theorem so_addB : OpS K rAddB addB := by
  intro ws B H x y dx dy d Q hb hx hy ho q
  unfold addB at ho
  split at ho
  · cases ho; cases hx; cases hy; exact .inr ⟨_, _, rfl, rfl, q _ _ (Grow.refl H) (.int _)⟩
  · cases ho; cases hx; cases hy; exact .inl ⟨_, _, rfl, rfl, q _ _ (Grow.refl H) (.int _)⟩
  · cases ho
theorem so_subB : OpS K rSubB subB := by
  intro ws B H x y dx dy d Q hb hx hy ho q
  unfold subB at ho
  split at ho
  · cases ho; cases hx; cases hy; exact .inr ⟨_, _, rfl, rfl, q _ _ (Grow.refl H) (.int _)⟩
  · cases ho; cases hx; cases hy; exact .inl ⟨_, _, rfl, rfl, q _ _ (Grow.refl H) (.int _)⟩
  · cases ho
theorem ot_addB : OpT addB := fun x y d h => by unfold addB at h; split at h <;> first | exact ⟨rfl, rfl⟩ | cases h
theorem ot_subB : OpT subB := fun x y d h => by unfold subB at h; split at h <;> first | exact ⟨rfl, rfl⟩ | cases h
end

section
variable {X : Cx}
theorem call_str_bool : CallR X (.type "str") (fun xs H Q => ∃ k : Bool, xs = [.bl k] ∧ Q (.str (if k then "True" else "False")) H) := by
  intro pins s σ H xs us Q I r h
  obtain ⟨k, rfl, q⟩ := h
  obtain ⟨u, rfl, ru⟩ := vals1 r
  cases ru
  exact callType_new F.called_str (by decide) (F.typeCall_str_1 _) (F.newCall_str_1 _) (fun obj => F.args_object_init_2 obj _) F.entry_str_new
    (meets_str_new (S := fun _ R s => R (.ok (.ret (.str (if k then "True" else "False") s.toks))) { s with toks := s.toks + 1 }) fun _ _ _ _ s hq =>
      wpAny_strOf_gives rfl (PySem.typeIs_bool s k) F.slot_bool_str F.slot_bool_repr F.entry_bool_repr (F.args_bool_repr_1 _) (gives_bool_repr k) hq (hsz := by cases k <;> decide)) ⟨typeIs_str _ _ _, ⟨.str _, H, I.tok _, ⟨_, rfl⟩, q⟩⟩
def rStrB : List V → Hp → VK → Prop := fun xs H Q => (∃ i : Int, xs = [.int i] ∧ i.natAbs.log2 < 1920 ∧ Q (.str (toString i)) H) ∨ ∃ k : Bool, xs = [.bl k] ∧ Q (.str (if k then "True" else "False")) H
theorem call_strB : CallR X (.type "str") rStrB := by
  intro pins s σ H xs us Q I r h
  rcases h with h | h
  · exact call_str_int pins s σ H xs us Q I r h
  · exact call_str_bool pins s σ H xs us Q I r h
end
def strB (ds : List D) : Option D := match ds with
  | [.int i] => if i.natAbs.log2 < 1920 then some (.str (toString i)) else none
  | [.bl k] => some (.str (if k then "True" else "False"))
  | _ => none
section
variable {K : PySem.W.Frag}
theorem cs_strB : CallS K rStrB strB := by
  intro ws B H xs ds d Q hb hx ho q
  unfold strB at ho
  split at ho
  · split at ho
    · rename_i hl
      obtain ⟨v, rfl, hv⟩ := one_of hx
      cases ho; cases hv
      exact .inl ⟨_, rfl, hl, q _ _ (Grow.refl H) (.str _)⟩
    · cases ho
  · obtain ⟨v, rfl, hv⟩ := one_of hx
    cases ho; cases hv
    exact .inr ⟨_, rfl, q _ _ (Grow.refl H) (.str _)⟩
  · cases ho
theorem ct_strB : CallT strB := fun ds d h => by unfold strB at h; split at h <;> first | rfl | cases h
end
section
variable {X : Cx} {Wx : WX} {a : Expr} {pos p : Pos} {g : An}
theorem m_strB (ha : PArm X Wx [a] g) (hm : X.mg "str" = none) (hg : Gl X "str" := by rfl) (he : starEach [a] X.env = (false, eval a X.env) :: starEach [] X.env := by rfl) : PEm X Wx (.Call (.Name "str" p) [a] [] pos) (fun sl => fCB strB (g sl)) :=
  m_callTy call_strB cs_strB ct_strB hg hm (by decide +kernel) ha (by decide) (by decide) he rfl
end
end Pm
namespace Pm
open PySem PySem.Spec PyProof.Rows L2 RZ

theorem an {x y : Nat} (h : x ≠ y) : @Ne Addr x y := h
section
variable {prog : Program} {w : World} {A : Around} {E : Value → Shared → Prop} {s : Shared}
variable {N a b c : Nat} {k : Nat} {xs ys zs : Array Value} {x y u p q r : Value}
end

section
variable {prog : Program} {w : World} {A : Around} {E : Value → Shared → Prop} {s : Shared}
end
end Pm
namespace Pm
open PySem PySem.Spec PyProof.Rows L2 RZ
section
variable {K : PySem.W.Frag} {ws : Wa} {B : Addr → Prop} {H : Hp}
end
end Pm
namespace Pm
open PySem PySem.Spec PyProof.Rows L2 RZ

theorem KR.none {K : PySem.W.Frag} {ws : Wa} {B : Addr → Prop} {H : Hp} {k : Key} : ∀ {kvs : List (Key × V)} {es : List (Key × D)}, KR K ws B H kvs es → valD es k = none → valV kvs k = none
  | [], _, _, _ => rfl
  | _ :: _, [], h, _ => by have := h.1; simp at this
  | p :: kvs, q :: es, h, e => by
    obtain ⟨h1, h2, h3⟩ := h.cons_of
    unfold valD at e
    rw [List.find?_cons] at e
    by_cases z : q.1 = k
    · rw [decide_eq_true z] at e
      cases e
    · rw [decide_eq_false z] at e
      rw [valV_neg (by rw [h1]; exact z)]
      exact KR.none h3 e
end Pm
namespace Pm
open PySem PySem.Spec PyProof.Rows L2 RZ

section
variable {X : Cx} {Wx : WX} {h : Hk} {a b c : Expr} {x y z : Str} {i j l : Nat} {px py pz pt pos : Pos} {kt k2 : Nat} {pt2 : Pos}
end
end Pm
namespace Pm
open PySem PySem.Spec PyProof.Rows L2 RZ

inductive MHd (X : Cx) (j : Nat) : List ExceptHandler → List (List (Str × Bool) × Dn) → Prop
  | nil : MHd X j [] []
  | cons {x : Str} {T : List (Str × Bool)} {mh : Dn} {b₀ : Stmt} {np pos' : Pos} {hds : List ExceptHandler} {cl : List (List (Str × Bool) × Dn)} (cx : Xk X.K X.mg x) (hg : Gl X x) (hdb : (x == ("__debug__" : Str)) = false) (hT : ∀ y k, T.lookup y = some k → Xm X.K X.mg x y k)
      (hsu : ∀ (a : Addr) (oe : Obj) (pn : List (Addr × Obj)), PB1 (X.suite a ((a, oe) :: pn)) W0 j [b₀] mh) (r : MHd X j hds cl) : MHd X j (.ExceptHandler (some (.Name x np)) none [b₀] pos' :: hds) ((T, mh) :: cl)
end Pm
namespace Pm
open PySem PySem.Spec PyProof.Rows L2


section
open Classical
end
section
variable {H H' H0 : Hp} {S : Addr → Prop} {a : Addr} {h h' : Heap} {P : Program} {w : World} {fs : List Addr}
end

section
variable {K : PySem.W.Frag} {ws ws' : Wa} {B B' : Addr → Prop} {H H' : Hp}
theorem okd_keepAll {n : Nat} (ih : ∀ v d, okd n d = true → DR K ws B H v d → DR K ws' B' H' v d) : ∀ {vs : List V} {ds : List D}, DRs K ws B H vs ds → ds.all (okd n) = true → DRs K ws' B' H' vs ds
  | _, _, .nil, _ => .nil
  | _, _, .cons h r, q => by
    simp only [List.all_cons, Bool.and_eq_true] at q
    exact .cons (ih _ _ q.1 h) (okd_keepAll ih r q.2)
theorem okd_keep (ht : ∀ a u, H a = some (.tup u) → ¬ B a → H' a = some (.tup u)) (hz : ∀ a o u, H a = some (.frz o (.tup u)) → ¬ B a → H' a = some (.frz o (.tup u))) (hl : ∀ a u, H a = some (.lst u) → ¬ B a → H' a = some (.lst u)) (hb : ∀ a, H a ≠ none → B' a → B a) : ∀ (n : Nat) (v : V) (d : D), okd n d = true → DR K ws B H v d → DR K ws' B' H' v d := by
  intro n
  induction n with
  | zero => intro v d h r; cases r <;> first | exact .non | exact .bl _ | exact .int _ | exact .str _ | (simp [okd] at h; done)
  | succ n ih =>
    intro v d h r
    cases r with
    | non => exact .non
    | bl b => exact .bl b
    | int i => exact .int i
    | str x => exact .str x
    | tup z t r =>
      refine .tup z ?_ (okd_keepAll ih r h)
      rcases t with ⟨n1, t⟩ | t | ⟨f, n1, o, t⟩
      · exact .inl ⟨fun q => n1 (hb _ (sm t) q), ht _ _ t n1⟩
      · exact .inr (.inl t)
      · exact .inr (.inr ⟨f, fun q => n1 (hb _ (sm t) q), o, hz _ _ _ t n1⟩)
    | lst z n1 t r => exact .lst z (fun q => n1 (hb _ (sm t) q)) (hl _ _ t n1) (okd_keepAll ih r h)
    | scr => simp [okd] at h
    | dk => simp [okd] at h
    | dt => simp [okd] at h
    | town => simp [okd] at h
    | obj => simp [okd] at h
    | fn => simp [okd] at h
    | exc => simp [okd] at h
    | kt => simp [okd] at h
end
end Pm
namespace Pm
open PySem PySem.Spec PyProof.Rows L2


abbrev LT.nf (T : LT) (cl : List (Str × Addr)) (c : Addr) : NdefX.NF := ⟨T.name, T.qual, T.params, [], T.scope, cl, c⟩
abbrev LT.fd (T : LT) (cl : List (Str × Addr)) (c : Addr) (doc pm ctv : Value) : FuncData :=
  { name := T.name, qualname := T.qual, params := T.params, body := T.body, scope := T.scope, globals := mainGlobals, closure := cl, defaults := .none, kwdefaults := .none, doc := doc, pyModule := pm, annotations := none, code := .ref c, closureTuple := ctv, builtins := builtinsNs }
def LamOk (P : Program) (w : World) (K : PySem.W.Frag) (mg : Str → Option Value) (base : Heap) (k : Nat) (T : LT) (m : List D → Mf) : Prop :=
  ∀ (A : Around) (outer : List PySem.Env) (s : Shared) (H : Hp) (us : List Value) (vs cvs : List V) (f c : Addr) (cl : List (Str × Addr)) (ds as : List D) (ws : Wa) (B0 : Addr → Prop) (w0 w1 : W) (d : D),
    Room k A → Env0 P w K mg base A outer s H → H f = some (LamO f T cl c) → H c = some (LamX.CodeO c T.qual) → NdefX.CellsAt cl T.fr (cvs.map some) s.heap H → Vals vs us → vs.length = T.ps.length →
    WR K ws w0 H → BX ws B0 H → (∀ a, B0 a → H a ≠ none) → DRs K ws (fun a => ws.has a ∨ B0 a) H cvs ds → DRs K ws (fun a => ws.has a ∨ B0 a) H vs as → m ds as w0 = .ok d w1 →
    codeAny (model P w) A (.call (.ref f) ⟨us, []⟩) (CR (L2.CX P w) outer P w H s (fun v H' => ∃ ws', Post ws H ws' H' ∧ WR K ws' w1 H' ∧ DR K ws' (fun a => ws'.has a ∨ B0 a) H' v d) (fun _ _ _ => False)) s
section
variable {P : Program} {w : World} {K : PySem.W.Frag} {mg : Str → Option Value} {base : Heap}
theorem LamOk.mono {j k : Nat} {T : LT} {m : List D → Mf} (h : LamOk P w K mg base j T m) (l : j ≤ k) : LamOk P w K mg base k T m := fun A outer s H us vs cvs f c cl ds as ws B0 w0 w1 d hr => h A outer s H us vs cvs f c cl ds as ws B0 w0 w1 d (hr.mono l)
end

structure Lams where
  tx : Nat → LT
  sm : Nat → List D → Mf
section
variable {K : PySem.W.Frag} {ws : Wa} {B : Addr → Prop} {H : Hp} {w : W} {S : Addr → Prop}
end
section
variable {X : Cx} {Wx : WX} {e : Expr} {es : List Expr} {pos p : Pos} {x : Str} {g : An} {L : Lams}
end
end Pm
namespace Pm
open PySem PySem.Spec PyProof.Rows L2


section
variable {X : Cx} {pins : List (Addr × Obj)} {σ : L2.St} {H : Hp} {s : Shared}
end

section
variable {K : PySem.W.Frag} {ws : Wa} {B0 : Addr → Prop} {sl : Ls} {w : W} {σ : L2.St} {H : Hp}
end
def lamN : Str := "<lambda>"
structure Mkr (X : Cx) (x : Str) (T : LT) (params : Arguments) (body : Expr) (scope : Scope) : Prop where
  tab : ∃ c P, codeTab X.K x = some (c, P) ∧ X.env.code = .ref c
  tbs : TBs X.K X.mg X.base
  nd : ((tabsK X.K).map (·.1)).Nodup
  mem : (x, lamN) ∈ makers
  qual : X.env.qual = x ++ ".<locals>."
  h1 : T.name = "<lambda>"
  h2 : T.qual = innerName (x, lamN)
  h3 : T.params = params
  h4 : T.body = .expr body
  h5 : T.scope = scope
  dflt : defaultsOf params X.env = ([], [])
  free : ∀ y ∈ scope.names, y.2 = .free → X.env.scope.names.lookup y.1 = some .cell ∨ X.env.scope.names.lookup y.1 = some .free
section
variable {X : Cx} {Wx : WX} {e : Expr} {es : List Expr} {pos p lpos : Pos} {x : Str} {g : An} {T : LT} {params : Arguments} {body : Expr} {scope : Scope}
end
end Pm
namespace Pm
open PySem PySem.Spec PyProof.Rows L2


section
variable {P : Program} {w : World} {K : PySem.W.Frag} {mg : Str → Option Value} {base : Heap}
end


def tabCs (K : PySem.W.Frag) : List (Addr × Addr) := makers.filterMap fun x => codeTab K x.1
def tabChk (K : PySem.W.Frag) (ts : List Addr) : Bool := (tabCs K).all fun p => PySem.W.codeHdIn K p.1 p.2 && (K.lookup p.2).isNone && ts.contains p.2
theorem lawAt {l : PySem.W.OpenLaw} {w : World} {K : PySem.W.Frag} {k : Nat} {x : Str} {mg : Str → Option Value} {fa : Addr} {h : Heap} {ts : List Addr} (hk : tabChk K ts = true) (hts : ∀ P ∈ ts, h.get? P = some (PySem.W.tabObj #[])) (KX : K.In h)
    (F : ∃ fd : FuncData, (∀ (s : Shared) (u : Value), BindsTo s fd ⟨[u], []⟩ [(x, u)]) ∧ ∀ base : Heap, K.In base → base.Ns mainGlobals mg → TBs K mg base → FnOk l.prog w K mg base (L2.CX l.prog w) k fa fd [x] (spLaw K)) : LamX.LawAtS l w K (L2.CX l.prog w) k 63 x mg fa h := by
  obtain ⟨fd, hb, F⟩ := F
  have chk : ∀ p ∈ tabCs K, PySem.W.codeHdIn K p.1 p.2 = true ∧ K.lookup p.2 = none ∧ p.2 ∈ ts := fun p hp => by
    have z := List.all_eq_true.mp hk p hp
    simp only [Bool.and_eq_true, Option.isNone_iff_eq_none, List.contains_iff_mem] at z
    exact ⟨z.1.1, z.1.2, z.2⟩
  refine ⟨fd, tabCs K, spLaw K, fun p hp => hts _ (chk p hp).2.2, fun p hp => (chk p hp).2.1, fun p hp => PySem.W.codeHd_of_K KX (chk p hp).1, hb, fun H a ns hl _ hT hS => ⟨a, ns, rfl, hS, hl, fun p hp => ?_, fun _ => rfl⟩, fun base hB hG hT => F base hB hG fun x hx p hp => hT p (List.mem_filterMap.mpr ⟨x, hx, hp⟩)⟩
  obtain ⟨y, hy, e⟩ := List.mem_filterMap.mp hp
  cases q : codeTab K y.1 with
  | none => rw [q] at e; cases e
  | some r =>
    rw [q] at e
    cases e
    exact LamX.TabS.nil (hT r (List.mem_filterMap.mpr ⟨y, hy, q⟩))
end Pm
namespace Pm
open PySem PySem.Spec PyProof.Rows L2


section
variable {M : Model} {A : Around} {E : Value → Shared → Prop} {s₀ s : Shared} {m cm : Str → Option Value} {env : PySem.Env} {cs : List (Str × Addr)}
end
structure MScope (N ps fr : List Str) (sc : Scope) : Prop where
  kind : sc.kind = .function
  co : sc.isCoroutine = false
  gen : sc.isGenerator = false
  nd : N.Nodup
  pre : N.take (ps.length + fr.length) = ps ++ fr
  par : ∀ x ∈ ps, sc.names.lookup x = some .local ∨ sc.names.lookup x = some .cell
  free : ∀ y ∈ sc.names, y.2 = .free → y.1 ∈ fr
  frk : ∀ x ∈ fr, sc.names.lookup x = some .free
  uni : ∀ y ∈ sc.names, y.2 = .cell → sc.names.lookup y.1 = some .cell
section
variable {P : Program} {w : World} {K : PySem.W.Frag} {mg : Str → Option Value} {base : Heap} {N : List Str} {T : LT} {f c : Addr} {A : Around} {outer : List PySem.Env} {s s1 : Shared} {H : Hp} {us : List Value} {vs : List V} {ws : List (Option V)} {cl : List (Str × Addr)}
end
section
variable {P : Program} {w : World} {K : PySem.W.Frag} {mg : Str → Option Value} {base : Heap}
end
end Pm
namespace Pm
open PySem PySem.Spec PyProof.Rows L2


abbrev FunK (K : PySem.W.Frag) (x : Str) (st : Stmt) (kws : List (Str × V)) (f : Addr) (fd : FuncData) : Prop := FunD K x x (defArgs st) (defBody st) (defScope st) [] kws f fd
def CalK (P : Program) (w : World) (K : PySem.W.Frag) (mg : Str → Option Value) (base : Heap) (k : Nat) (x : Str) (st : Stmt) (ps : List Str) (kws : List (Str × V)) (m : Mf) : Prop := ∃ f fd, mg x = some (.ref f) ∧ FunK K x st kws f fd ∧ FnOk P w K mg base (L2.CX P w) k f fd ps (spF K mg ps.length m)
section
variable {P : Program} {w : World} {K : PySem.W.Frag} {mg : Str → Option Value} {base : Heap}
theorem CalK.mono {j k : Nat} {x : Str} {st : Stmt} {ps : List Str} {kws : List (Str × V)} {m : Mf} (h : CalK P w K mg base j x st ps kws m) (l : j ≤ k) : CalK P w K mg base k x st ps kws m := by
  obtain ⟨f, fd, h1, h2, h3⟩ := h
  exact ⟨f, fd, h1, h2, h3.mono l⟩
end

section
variable {X : Cx} {Wx : WX} {e : Expr} {es : List Expr} {pos p : Pos} {x : Str} {g gk : An} {kas : List Keyword}
end
end Pm
namespace Pm
open PySem PySem.Spec PyProof.Rows L2


section
variable {X : Cx} {pins : List (Addr × Obj)} {σ : L2.St} {H : Hp} {s : Shared}
end
structure MkrD (X : Cx) (x name : Str) (T : LT) (params : Arguments) (body : List Stmt) (scope : Scope) : Prop where
  tab : ∃ c P, codeTab X.K x = some (c, P) ∧ X.env.code = .ref c
  tbs : TBs X.K X.mg X.base
  nd : ((tabsK X.K).map (·.1)).Nodup
  mem : (x, name) ∈ makers
  qual : X.env.qual ++ name = innerName (x, name)
  h1 : T.name = name
  h2 : T.qual = innerName (x, name)
  h3 : T.params = params
  h4 : T.body = .stmts body
  h5 : T.scope = scope
  d0 : params.defaults = []
  k0 : params.kw_defaults = []
  an : annTrees params none X.env = []
  free : ∀ y ∈ scope.names, y.2 = .free → X.env.scope.names.lookup y.1 = some .cell ∨ X.env.scope.names.lookup y.1 = some .free
section
variable {X : Cx} {Wx : WX} {e : Expr} {es : List Expr} {pos p npos dpos : Pos} {x name : Str} {g : An} {T : LT} {params : Arguments} {body : List Stmt} {scope : Scope} {i : Nat} {cl : List (Str × Addr)}
end

section
variable {P : Program} {w : World} {K : PySem.W.Frag} {mg : Str → Option Value} {base : Heap}
end

end Pm
namespace Pm
open PySem PySem.Spec PyProof.Rows L2 RZ

def itr : Bool → Heap → Addr → Addr → Nat → Prop
  | true, h, a, l, i => h.IsListIter a l i
  | false, h, a, l, i => h.IsTupleIter a l i
def isq : Bool → Heap → Addr → Array Value → Prop
  | true, h, a, xs => h.IsList a xs
  | false, h, a, xs => h.IsTuple a xs
theorem itr.at {t : Bool} {h h' : Heap} {a l : Addr} {i : Nat} (x : itr t h a l i) (e : ∀ o, h.get? a = some o → h'.get? a = some o) : itr t h' a l i := by
  cases t
  · exact Heap.IsTupleIter.at x e
  · exact Heap.IsListIter.at x e
theorem itr.obj {t : Bool} {h : Heap} {a l : Addr} {i : Nat} (x : itr t h a l i) : ∃ o, h.get? a = some o ∧ ∀ v, o.data ≠ .cell v := by
  cases t <;> (obtain ⟨o, e, _, d⟩ := x; exact ⟨o, e, fun v q => by rw [d] at q; cases q⟩)
theorem isq.push {t : Bool} {h : Heap} {a : Addr} {xs : Array Value} (x : isq t h a xs) (o : Obj) : isq t (h.push o) a xs := by
  cases t
  · exact Heap.IsTuple.push x o
  · exact Heap.IsList.push x o
theorem isq.lt {t : Bool} {h : Heap} {a : Addr} {xs : Array Value} (x : isq t h a xs) : a < h.objs.size := by
  cases t <;> (obtain ⟨o, e, _⟩ := x; exact Heap.lt_size e)
section
variable {prog : Program} {w : World} {A : Around} {E : Value → Shared → Prop} {s : Shared}
variable {N a b : Nat} {k : Nat} {t1 t2 : Bool} {xs ys : Array Value} {x y p q : Value}
end

section
variable {prog : Program} {w : World} {A : Around} {E : Value → Shared → Prop} {s : Shared}
end
section
variable {X : Cx} {pins : List (Addr × Obj)} {σ : L2.St} {H : Hp} {s : Shared} {a : Addr} {xs ys : List V} {t : Bool}
end
section
variable {K : PySem.W.Frag} {ws : Wa} {B : Addr → Prop} {H : Hp}
end
end Pm
namespace Pm
open PySem PySem.Spec PyProof.Rows L2

end Pm
namespace Pm
open PySem PySem.Spec PyProof.Rows L2


mutual
def okt : D → Bool
  | .non => true
  | .bl _ => true
  | .int _ => true
  | .str _ => true
  | .tup l => okts l
  | _ => false
def okts : List D → Bool
  | [] => true
  | d :: r => okt d && okts r
end
section
variable {K : PySem.W.Frag} {ws : Wa} {B0 B : Addr → Prop} {sl : Ls} {w : W} {σ : L2.St} {H : Hp} {v : V} {d : D}
mutual
theorem DR.tr (kf : kfl K = false) : ∀ {v : V} {d : D}, DR K ws B H v d → okt d = true → TR K H v d
  | _, _, .non, _ => .non
  | _, _, .bl b, _ => .bl b
  | _, _, .int i, _ => .int i
  | _, _, .str x, _ => .str x
  | _, _, .tup z h r, q => .tup z (by
      rcases h with h | h | ⟨f, _⟩
      · exact .inl h.2
      · exact .inr h
      · rw [kf] at f; cases f) (DRs.tr kf r (by simpa [okt] using q))
  | _, _, .lst _ _ _ _, q => by simp [okt] at q
  | _, _, .scr _ _, q => by simp [okt] at q
  | _, _, .dk _ _ _ _, q => by simp [okt] at q
  | _, _, .dt _ _ _ _, q => by simp [okt] at q
  | _, _, .town _, q => by simp [okt] at q
  | _, _, .obj _, q => by simp [okt] at q
  | _, _, .fn _ _ _ _ _ _, q => by simp [okt] at q
  | _, _, .exc _ _, q => by simp [okt] at q
  | _, _, .kt _ _ _ _ _, q => by simp [okt] at q
theorem DRs.tr (kf : kfl K = false) : ∀ {vs : List V} {ds : List D}, DRs K ws B H vs ds → okts ds = true → TRs K H vs ds
  | _, _, .nil, _ => .nil
  | _, _, .cons h r, q => by
    simp only [okts, Bool.and_eq_true] at q
    exact .cons (DR.tr kf h q.1) (DRs.tr kf r q.2)
end
mutual
theorem TR.dr (hB : ∀ a xs, H a = some (.tup xs) → ¬ B a) : ∀ {v : V} {d : D}, TR K H v d → DR K ws B H v d
  | _, _, .non => .non
  | _, _, .bl b => .bl b
  | _, _, .int i => .int i
  | _, _, .str x => .str x
  | _, _, .tup z h r => .tup z (h.imp (fun y => ⟨hB _ _ y, y⟩) .inl) (TRs.dr hB r)
theorem TRs.dr (hB : ∀ a xs, H a = some (.tup xs) → ¬ B a) : ∀ {vs : List V} {ds : List D}, TRs K H vs ds → DRs K ws B H vs ds
  | _, _, .nil => .nil
  | _, _, .cons h r => .cons (TR.dr hB h) (TRs.dr hB r)
end
mutual
theorem TR.okt : ∀ {v : V} {d : D}, TR K H v d → Pm.okt d = true
  | _, _, .non => rfl
  | _, _, .bl b => rfl
  | _, _, .int i => rfl
  | _, _, .str x => rfl
  | _, _, .tup z h r => by simp only [Pm.okt]; exact TRs.okts r
theorem TRs.okts : ∀ {vs : List V} {ds : List D}, TRs K H vs ds → Pm.okts ds = true
  | _, _, .nil => rfl
  | _, _, .cons h r => by simp only [Pm.okts, Bool.and_eq_true]; exact ⟨TR.okt h, TRs.okts r⟩
end
theorem TRs.length : ∀ {vs : List V} {ds : List D}, TRs K H vs ds → vs.length = ds.length
  | _, _, .nil => rfl
  | _, _, .cons _ r => congrArg (· + 1) (TRs.length r)
theorem TRs.set (h : TR K H v d) : ∀ {vs : List V} {ds : List D} (i : Nat), TRs K H vs ds → TRs K H (vs.set i v) (ds.set i d)
  | _, _, _, .nil => .nil
  | _, _, 0, .cons _ t => .cons h t
  | _, _, i + 1, .cons q t => .cons q (TRs.set h i t)
theorem TRs.append : ∀ {vs us : List V} {ds es : List D}, TRs K H vs ds → TRs K H us es → TRs K H (vs ++ us) (ds ++ es)
  | _, _, _, _, .nil, s => s
  | _, _, _, _, .cons h r, s => .cons h (TRs.append r s)
theorem TW.same {ws ws' : Wa} {w w' : W} (h1 : ws'.town = ws.town) (h2 : w'.town = w.town) (h : TW ws w H) : TW ws' w' H := by
  unfold TW at *; rw [h1, h2]; exact h
end

section
variable {X : Cx} {Wx : WX} {a b c e : Expr} {es : List Expr} {pos p : Pos} {x : Str}
end

section
variable {K : PySem.W.Frag} {mg : Str → Option Value} {Wx : WX} {ws : Wa} {B0 : Addr → Prop} {sl : Ls} {w : W} {σ : L2.St} {H : Hp}
end
section
variable {X : Cx} {Wx : WX} {a b c e : Expr} {es : List Expr} {pos p : Pos} {x : Str}
end

section
variable {K : PySem.W.Frag} {mg : Str → Option Value} {Wx : WX} {B0 : Addr → Prop} {sl : Ls} {σ : L2.St} {H : Hp}
end

def cutW (n : Nat) (w : W) : W := ⟨w.town, w.objs.take n⟩
noncomputable def cutG (w w' : W) (r : Rs D) : Rs D := open Classical in if w'.objs.take w.objs.length = w.objs then r else .bad
noncomputable def scopeF (m : Mf) : Mf := fun ds w => match m ds w with
  | .ok d w' => if okd 40 d = true then cutG w w' (.ok d (cutW w.objs.length w')) else .bad
  | .ex c w' => cutG w w' (.ex c (cutW w.objs.length w'))
  | .bad => .bad
section
variable {K : PySem.W.Frag} {ws ws' : Wa} {B0 : Addr → Prop} {w w' : W} {H H' : Hp}
def cutA (n : Nat) (ws : Wa) : Wa := ⟨ws.town, ws.tabs, ws.ob.take n⟩
theorem has_cut {n : Nat} {a : Addr} (h : (cutA n ws).has a) : ws.has a := by
  rcases h with h | h | h
  · exact .inl h
  · exact .inr (.inl h)
  · exact .inr (.inr (List.mem_of_mem_take h))
theorem get_take {α : Type} {l : List α} {n k : Nat} {x : α} (h : (l.take n)[k]? = some x) : k < n ∧ l[k]? = some x := by
  rw [List.getElem?_take] at h
  split at h
  · exact ⟨by assumption, h⟩
  · cases h
theorem Post.cut {n : Nat} (hn : ws.ob.length ≤ n) (p : Post ws H ws' H') : Post ws H (cutA n ws') H' := by
  refine ⟨⟨p.wle.tw, fun k a b z => ?_⟩, fun a z => p.new a (has_cut z), p.own, p.keep, p.ex⟩
  obtain ⟨b', y⟩ := p.wle.ob k a b z
  have := (List.getElem?_eq_some_iff.mp z).1
  exact ⟨b', by show (ws'.ob.take n)[k]? = _; rw [List.getElem?_take, if_pos (by omega)]; exact y⟩
theorem TR.no_obj {k : Nat} {v : V} {H : Hp} (h : TR K H v (.obj k)) : False := by cases h
theorem FPs.cut {ob ob' : List (Addr × Bool)} {H1 H2 : Hp} {n : Nat} (hn : ob.length ≤ n) : ∀ {fv gv : List (Str × V)} {fs : List (Str × D)}, Paired (FP K ob H1) fv fs → Paired (FP K ob' H2) gv fs → Paired (FP K (ob'.take n) H2) gv fs
  | _, _, _, .nil, .nil => .nil
  | _, _, _, .cons h r, .cons h' r' => by
    refine .cons ⟨h'.1, ?_⟩ (FPs.cut hn r r')
    rcases h'.2 with q | ⟨k, b, c, e, q, y⟩
    · exact .inl q
    · rcases h.2 with z | ⟨k2, b2, c2, e2, q2, y2⟩
      · rw [e] at z; exact z.no_obj.elim
      · rw [e] at e2
        cases e2
        have := (List.getElem?_eq_some_iff.mp q2).1
        exact .inr ⟨k, b, c, e, by rw [List.getElem?_take, if_pos (by omega)]; exact q, y⟩
theorem WR.cut {H0 : Hp} {ws0 : Wa} {w0 : W} {n : Nat} (h0 : WR K ws0 w0 H0) (hn : w0.objs.length = n) (he : w.objs.take n = w0.objs) (h : WR K ws w H) : WR K (cutA n ws) (cutW n w) H := by
  obtain ⟨h1, h2, h3⟩ := h
  refine ⟨h1.same rfl rfl, h2, ?_⟩
  refine ⟨by simp [cutA, cutW, h3.len], fun k o z => ?_, fun k z => ?_, fun j k a z1 z2 => h3.nd j k a (get_take z1).2 (get_take z2).2, fun a z => h3.nt a (List.mem_of_mem_take z)⟩
  · have z0 : w0.objs[k]? = some (some o) := by rw [← he]; exact z
    obtain ⟨z1, z2⟩ := get_take z
    obtain ⟨a, y1, y2⟩ := h3.live k o z2
    obtain ⟨a0, x1, x2⟩ := h0.3.live k o z0
    refine ⟨a, by show (ws.ob.take n)[k]? = _; rw [List.getElem?_take, if_pos z1]; exact y1, ?_⟩
    cases o with
    | lst ds => exact y2
    | ins c fs =>
      obtain ⟨dx, fv, q1, q2, q3⟩ := y2
      obtain ⟨dx0, fv0, p1, p2, p3⟩ := x2
      exact ⟨dx, fv, q1, q2, FPs.cut (by rw [h0.3.len, hn]; exact Nat.le_refl _) p3 q3⟩
    | dct fs =>
      obtain ⟨fv, q1, q2, q3⟩ := y2
      obtain ⟨fv0, p1, p2, p3⟩ := x2
      exact ⟨fv, q1, q2, FPs.cut (by rw [h0.3.len, hn]; exact Nat.le_refl _) p3 q3⟩
  · obtain ⟨z1, z2⟩ := get_take z
    obtain ⟨a, y1⟩ := h3.dead k z2
    exact ⟨a, by show (ws.ob.take n)[k]? = _; rw [List.getElem?_take, if_pos z1]; exact y1⟩
theorem spF_scope {mg : Str → Option Value} {n : Nat} {m : Mf} {vs : List V} {Q : VK} {E : XK} (h : spF K mg n (scopeF m) vs H Q E) : spF K mg n m vs H Q E := by
  obtain ⟨hl, ws, B0, w, ds, hw, hbx, hd, r, h⟩ := h
  refine ⟨hl, ws, B0, w, ds, hw, hbx, hd, r, ?_⟩
  have hn : ws.ob.length = w.objs.length := hw.3.len
  unfold scopeF at h
  cases q : m ds w with
  | bad => rw [q] at h; exact h
  | ex c w' =>
    rw [q] at h
    simp only at h
    by_cases he : w'.objs.take w.objs.length = w.objs
    · have e : ∀ r, cutG w w' r = r := fun r => if_pos he
      rw [e] at h
      exact fun ws' H' C hC po hw' => h _ H' C hC (po.cut (n := w.objs.length) (by omega)) (WR.cut hw rfl he hw')
    · have e : ∀ r, cutG w w' r = .bad := fun r => if_neg he
      rw [e] at h
      exact h.elim
  | ok d w' =>
    rw [q] at h
    simp only at h
    by_cases z : okd 40 d = true
    · rw [if_pos z] at h
      by_cases he : w'.objs.take w.objs.length = w.objs
      · have e : ∀ r, cutG w w' r = r := fun r => if_pos he
        rw [e] at h
        intro v ws' H' po hw' hv
        exact h v _ H' (po.cut (n := w.objs.length) (by omega)) (WR.cut hw rfl he hw') (okd_keep (fun _ _ y _ => y) (fun _ _ _ y _ => y) (fun _ _ y _ => y) (fun a _ y => y.imp has_cut id) 40 v d z hv)
      · have e : ∀ r, cutG w w' r = .bad := fun r => if_neg he
        rw [e] at h
        exact h.elim
    · rw [if_neg z] at h
      exact h.elim
theorem Cal.scope {P : Program} {w : World} {mg : Str → Option Value} {base : Heap} {k : Nat} {x : Str} {ps : List Str} {m : Mf} (h : Cal P w K mg base k x ps m) : Cal P w K mg base k x ps (scopeF m) := by
  obtain ⟨f, fd, h1, h2, h3, h4⟩ := h
  exact ⟨f, fd, h1, h2, h3, ⟨fun vs H Q E h => h.1, fun A outer s H args us vs Q E hr he hb hv hs => h4.run A outer s H args us vs Q E hr he hb hv (spF_scope hs)⟩⟩
end
end Pm
namespace Pm
open PySem PySem.Spec PyProof.Rows L2



end Pm
namespace Pm
open PySem PySem.Spec PyProof.Rows L2


theorem DRs.erase {K : PySem.W.Frag} {ws : Wa} {B : Addr → Prop} {H : Hp} : ∀ {vs : List V} {ds : List D} (n : Nat), DRs K ws B H vs ds → DRs K ws B H (vs.eraseIdx n) (ds.eraseIdx n)
  | _, _, n, .nil => by cases n <;> exact .nil
  | _, _, 0, .cons _ r => r
  | _, _, n + 1, .cons h r => .cons h (DRs.erase n r)
section
variable {X : Cx} {Wx : WX} {e : Expr} {pos np apos cpos np2 apos2 cpos2 : Pos} {x y : Str} {f : Dn}
end

section
variable {X : Cx} {Wx : WX} {a b c d : Expr} {i j l m : Nat} {x y z u : Str} {px py pz pu pt pt2 pos : Pos} {kt k2 : Nat} {h : Hk}
end
end Pm
namespace Pm
open PySem PySem.Spec PyProof.Rows L2 RZ


end Pm
namespace Pm
open PySem PySem.Spec PyProof.Rows L2 RZ


def strD : D → Option Str
  | .str x => some x
  | _ => none
def strsD : List D → Option (List Str)
  | [] => some []
  | .str x :: l => (strsD l).map (x :: ·)
  | _ :: _ => none
def joinD (a : Str) (d : D) : Option D := match d with
  | .lst l => (strsD l).bind fun ys => if (ys.map (·.length)).sum + ys.length * a.length ≤ 16777216 then some (.str (Txt.join a ys)) else none
  | .tup l => (strsD l).bind fun ys => if (ys.map (·.length)).sum + ys.length * a.length ≤ 16777216 then some (.str (Txt.join a ys)) else none
  | _ => none
def fJoin (x y : M D) : M D := x.bind fun a => (M.opt (strD a)).bind fun s => y.bind fun d => M.opt (joinD s d)
theorem strs_vals {K : PySem.W.Frag} {ws : Wa} {B : Addr → Prop} {H : Hp} : ∀ {vs : List V} {l : List D} {ys : List Str}, DRs K ws B H vs l → strsD l = some ys → vs = ys.map V.str
  | _, _, ys, .nil, h => by cases h; rfl
  | _, _, ys, .cons (d := d) hd r, h => by
    cases d <;> first | (simp [strsD] at h; done) | skip
    simp only [strsD, Option.map_eq_some_iff] at h
    obtain ⟨zs, hz, rfl⟩ := h
    cases hd
    rw [List.map_cons, ← strs_vals r hz]
section
variable {X : Cx} {Wx : WX} {a e : Expr} {apos pos : Pos} {f g : Dn}
theorem m_join (ha : PRm X Wx a f) (he : PRm X Wx e g) (hs : starEach [e] X.env = [(false, eval e X.env)] := by rfl) (hbase : attributeBase a "join" X.env (eval a X.env) = eval a X.env := by rfl) (hline : (apos.endLine == pos.line) = true := by rfl) :
    PEm X Wx (.Call (.Attribute a "join" apos) [e] [] pos) (fun sl => fJoin (f sl) (g sl)) := by
  refine (pe_join ha he hs hbase hline).mimp fun σ H Q ⟨ws, B0, sl, w, e, h⟩ => ?_
  refine ⟨ws, B0, sl, w, e, (runAt.bind h).mono fun ws1 w1 x H1 l1 e1 h1 v hv => ?_⟩
  obtain ⟨s, rfl⟩ : ∃ s, x = .str s := by
    cases x with
    | str s => exact ⟨s, rfl⟩
    | _ => exact h1.elim
  have h1 : runAt X.K X.mg Wx ws1 B0 sl σ H1 (M.bind (g sl) (fun d => M.opt (joinD s d)) w1) (fun ws' x d H' => ∀ (v : V), DR X.K ws' (Bad ws' B0 sl σ) H' v d → Q v H') := h1
  have dx := e1.rv hv rfl
  cases (show v = V.str s from dx)
  refine ⟨⟨s, rfl⟩, ws1, B0, sl, w1, e1, (runAt.bind h1).mono fun ws2 w2 y H2 l2 e2 h2 u hu => ?_⟩
  obtain ⟨d, q3, h2⟩ := runAt.opt h2
  cases y <;> first | (simp [joinD] at q3; done) | skip
  · simp only [joinD, Option.bind_eq_some_iff] at q3
    obtain ⟨ys, hy, q3⟩ := q3
    split at q3
    · rename_i hz
      cases q3
      have dy := e2.rv hu rfl
      obtain ⟨zx, p, vs, rfl, t, r⟩ := dy
      have ev := strs_vals r hy
      subst ev
      exact ⟨s, p, ys, rfl, rfl, .inr t.sq, hz, runAt.here e2 h2 _ (.str _)⟩
    · cases q3
  · simp only [joinD, Option.bind_eq_some_iff] at q3
    obtain ⟨ys, hy, q3⟩ := q3
    split at q3
    · rename_i hz
      cases q3
      have dy := e2.rv hu rfl
      obtain ⟨zx, p, vs, rfl, t, r⟩ := dy
      have ev := strs_vals r hy
      subst ev
      exact ⟨s, p, ys, rfl, rfl, .inl (.inl (.inl t)), hz, runAt.here e2 h2 _ (.str _)⟩
    · cases q3
end
end Pm
namespace Pm
open PySem PySem.Spec PyProof.Rows L2 RZ


section
variable {X : Cx} {Wx : WX} {ke ve : Expr} {pos : Pos} {f g : Dn}
end
end Pm
namespace Pm
open PySem PySem.Spec PyProof.Rows L2 RZ


def repS (z : Str) (k : Nat) : Str := ⟨(List.replicate k z.cps).foldl (· ++ ·) #[]⟩
def rRepS : R2 := fun x y H Q => ∃ z k, x = .str z ∧ y = .int k ∧ 0 ≤ k ∧ k ≤ 10000 ∧ z.length ≤ 1000 ∧ Q (.str (repS z k.toNat)) H
theorem rep_nil : ∀ k, (List.replicate k (#[] : Array Nat)).foldl (· ++ ·) #[] = #[]
  | 0 => rfl
  | k + 1 => by rw [List.replicate_succ, List.foldl_cons]; exact rep_nil k
theorem rep_size {α : Type} (c : Array α) : ∀ (k : Nat) (a : Array α), ((List.replicate k c).foldl (· ++ ·) a).size = a.size + k * c.size
  | 0, a => by rw [List.replicate_zero, List.foldl_nil, Nat.zero_mul, Nat.add_zero]
  | k + 1, a => by rw [List.replicate_succ, List.foldl_cons, rep_size c k, Array.size_append, Nat.succ_mul]; omega
def smulD : D → D → Option D
  | .str z, .int k => if 0 ≤ k ∧ k ≤ 10000 ∧ z.length ≤ 1000 then some (.str (repS z k.toNat)) else none
  | _, _ => none
theorem op_mulS {X : Cx} : OpR X (binaryOp .Mult) rRepS := by
  intro pins s σ H x y v u Q I rx ry h
  obtain ⟨z, k, rfl, rfl, h1, h2, h3, q⟩ := h
  obtain ⟨t, rfl⟩ := rx
  obtain ⟨t2, rfl⟩ := ry
  have hz : sizeLine = 16777216 := by decide
  refine PySem.P.mul_str (by rw [decide_eq_false (by omega), decide_eq_false (by omega)]; rfl) (fun g1 _ => ?_) (fun g1 _ => ?_) ?_
  · have hm : ((z.length : Nat) : Int) * k ≤ 1000 * 10000 := Int.mul_le_mul (by omega) h2 h1 (by decide)
    have := Int.le_ediv_of_mul_le (a := (z.length : Int)) (b := 2 ^ 63 - 1) (c := k) (by omega) (by omega)
    omega
  · have hm : z.length * k.toNat ≤ 1000 * 10000 := Nat.mul_le_mul h3 (by omega)
    unfold Builtin.Str.tooLong
    exact decide_eq_false (by omega)
  · split
    · rename_i hk
      have : k = 0 := by omega
      subst this
      exact ⟨by decide, .str _, H, I.tok _, ⟨_, rfl⟩, q⟩
    · split
      · rename_i hk hc
        have e : repS z k.toNat = z := by
          unfold repS
          rw [Bool.or_eq_true] at hc
          rcases hc with hc | hc
          · have : k = 1 := by simpa using hc
            subst this
            show (⟨#[] ++ z.cps⟩ : Str) = z
            rw [Array.empty_append]
          · have hz0 : z.cps = #[] := by
              have q : z.length = 0 := by simpa using hc
              exact Array.eq_empty_of_size_eq_zero q
            rw [hz0, rep_nil, ← hz0]
        rw [e] at q
        exact ⟨.str _, H, I, ⟨_, rfl⟩, q⟩
      · refine ⟨?_, .str _, H, I.tok _, ⟨_, rfl⟩, q⟩
        show ((List.replicate k.toNat z.cps).foldl (· ++ ·) #[]).size ≤ sizeLine
        rw [rep_size]
        have hm : k.toNat * z.length ≤ 10000 * 1000 := Nat.mul_le_mul (by omega) h3
        show 0 + k.toNat * z.length ≤ sizeLine
        omega
theorem so_smul {K : PySem.W.Frag} : OpS K rRepS smulD := by
  intro ws B H x y dx dy d Q hb hx hy ho q
  cases dx <;> cases dy <;> first
    | (simp [smulD] at ho; done)
    | skip
  cases hx; cases hy
  simp only [smulD] at ho
  split at ho
  · rename_i hc
    cases ho
    exact ⟨_, _, rfl, rfl, hc.1, hc.2.1, hc.2.2, q _ _ (Grow.refl H) (.str _)⟩
  · cases ho
theorem ot_smul : OpT smulD := fun x y d h => by cases x <;> cases y <;> first | exact ⟨rfl, rfl⟩ | cases h
end Pm
namespace Pm
open PySem PySem.Spec PyProof.Rows L2 RZ


section
variable {K : PySem.W.Frag}
end
end Pm
namespace Pm
open PySem PySem.Spec PyProof.Rows L2


section
variable {K : PySem.W.Frag} {mg : Str → Option Value} {Wx : WX} {ws : Wa} {B0 : Addr → Prop} {sl : Ls} {w : W} {σ : L2.St} {H : Hp} {nx bk ct : Kn} {D0 : Ends}
end
section
variable {X : Cx} {Wx : WX} {k e : Expr} {pos np apos cpos apos2 cpos2 lpos : Pos} {x : Str} {f g : Dn}
end



end Pm
namespace Pm
open PySem PySem.Spec PyProof.Rows L2 RZ


section
variable {K : PySem.W.Frag} {mg : Str → Option Value} {Wx : WX} {ws : Wa} {B0 : Addr → Prop} {sl : Ls} {w : W} {σ : L2.St} {H : Hp}
end


section
variable {κ : Type} [DecidableEq κ]
def valG (es : List (κ × D)) (k : κ) : Option D := (es.find? fun kv => decide (kv.1 = k)).map (·.2)
def putG (es : List (κ × D)) (k : κ) (d : D) : List (κ × D) := if (es.any fun kv => decide (kv.1 = k)) then es.map (fun kv => if kv.1 = k then (kv.1, d) else kv) else es ++ [(k, d)]
def KRG (K : PySem.W.Frag) (ws : Wa) (B : Addr → Prop) (H : Hp) (kvs : List (κ × V)) (es : List (κ × D)) : Prop := kvs.map (·.1) = es.map (·.1) ∧ DRs K ws B H (kvs.map (·.2)) (es.map (·.2))
variable {K : PySem.W.Frag} {ws : Wa} {B : Addr → Prop} {H : Hp} {v : V} {d : D} {k : κ}
theorem KRG.cons_of {p : κ × V} {kvs : List (κ × V)} {q : κ × D} {es : List (κ × D)} (h : KRG K ws B H (p :: kvs) (q :: es)) : p.1 = q.1 ∧ DR K ws B H p.2 q.2 ∧ KRG K ws B H kvs es := by
  obtain ⟨h1, h2⟩ := h
  simp only [List.map_cons, List.cons.injEq] at h1 h2
  cases h2 with | cons a b => exact ⟨h1.1, a, h1.2, b⟩
theorem KRG.cons {p : κ × V} {kvs : List (κ × V)} {q : κ × D} {es : List (κ × D)} (h1 : p.1 = q.1) (h2 : DR K ws B H p.2 q.2) (h : KRG K ws B H kvs es) : KRG K ws B H (p :: kvs) (q :: es) :=
  ⟨by simp only [List.map_cons, h1, h.1], .cons h2 h.2⟩
theorem KRG.val : ∀ {kvs : List (κ × V)} {es : List (κ × D)}, KRG K ws B H kvs es → valG es k = some d → ∃ v, valV kvs k = some v ∧ DR K ws B H v d
  | [], [], _, e => by cases e
  | [], _ :: _, h, _ => by have := h.1; simp at this
  | _ :: _, [], h, _ => by have := h.1; simp at this
  | p :: kvs, q :: es, h, e => by
    obtain ⟨h1, h2, h3⟩ := h.cons_of
    unfold valG at e
    rw [List.find?_cons] at e
    by_cases z : q.1 = k
    · rw [decide_eq_true z] at e
      cases e
      exact ⟨p.2, valV_pos (h1.trans z), h2⟩
    · rw [decide_eq_false z] at e
      rw [valV_neg (by rw [h1]; exact z)]
      exact KRG.val h3 e
theorem KRG.none : ∀ {kvs : List (κ × V)} {es : List (κ × D)}, KRG K ws B H kvs es → valG es k = none → valV kvs k = none
  | [], _, _, _ => rfl
  | _ :: _, [], h, _ => by have := h.1; simp at this
  | p :: kvs, q :: es, h, e => by
    obtain ⟨h1, h2, h3⟩ := h.cons_of
    unfold valG at e
    rw [List.find?_cons] at e
    by_cases z : q.1 = k
    · rw [decide_eq_true z] at e
      cases e
    · rw [decide_eq_false z] at e
      rw [valV_neg (by rw [h1]; exact z)]
      exact KRG.none h3 e
theorem KRG.len {kvs : List (κ × V)} {es : List (κ × D)} (h : KRG K ws B H kvs es) : kvs.length = es.length := by have := congrArg List.length h.1; simpa using this
theorem KRG.any {kvs : List (κ × V)} {es : List (κ × D)} (h : KRG K ws B H kvs es) : (kvs.any fun kv => decide (kv.1 = k)) = es.any fun kv => decide (kv.1 = k) := by
  have e : ∀ {β : Type} (l : List (κ × β)), (l.any fun kv => decide (kv.1 = k)) = (l.map (·.1)).any fun z => decide (z = k) := fun l => by rw [List.any_map]; rfl
  rw [e, e, h.1]
theorem KRG.rep : ∀ {kvs : List (κ × V)} {es : List (κ × D)}, KRG K ws B H kvs es → DR K ws B H v d → KRG K ws B H (kvs.map fun kv => if kv.1 = k then (kv.1, v) else kv) (es.map fun kv => if kv.1 = k then (kv.1, d) else kv)
  | [], [], _, _ => ⟨rfl, .nil⟩
  | [], _ :: _, h, _ => by have := h.1; simp at this
  | _ :: _, [], h, _ => by have := h.1; simp at this
  | p :: kvs, q :: es, h, hd => by
    obtain ⟨h1, h2, h3⟩ := h.cons_of
    rw [List.map_cons, List.map_cons]
    refine .cons ?_ ?_ (KRG.rep h3 hd)
    · rw [h1]; split
      · rfl
      · exact h1
    · rw [h1]; split
      · exact hd
      · exact h2
theorem KRG.put {kvs : List (κ × V)} {es : List (κ × D)} (h : KRG K ws B H kvs es) (hd : DR K ws B H v d) : KRG K ws B H (putK kvs k v) (putG es k d) := by
  unfold putK putG
  rw [h.any]
  split
  · exact h.rep hd
  · refine ⟨by simp [h.1], ?_⟩
    rw [List.map_append, List.map_append]
    exact h.2.append (.one hd)
end
end Pm
namespace Pm
open PySem PySem.Spec PyProof.Rows L2 RZ PySem.SeqAt PySem.W


end Pm
namespace Pm
open PySem PySem.Spec PyProof.Rows L2 RZ


def intsD : List D → Option (List Int)
  | [] => some []
  | .int i :: r => (intsD r).map (i :: ·)
  | _ => none
theorem intsD_eq : ∀ {ds : List D} {is : List Int}, intsD ds = some is → ds = is.map D.int
  | [], _, h => by cases h; rfl
  | d :: ds, is, h => by
    cases d <;> first | (cases h; done) | skip
    simp only [intsD, Option.map_eq_some_iff] at h
    obtain ⟨js, hj, rfl⟩ := h
    rw [List.map_cons, intsD_eq hj]
theorem intsD_map : ∀ is : List Int, intsD (is.map D.int) = some is
  | [] => rfl
  | i :: is => by rw [List.map_cons]; show (intsD (is.map D.int)).map _ = _; rw [intsD_map is]; rfl
theorem drs_ints {K : PySem.W.Frag} {ws : Wa} {B : Addr → Prop} {H : Hp} : ∀ {vs : List V} {is : List Int}, DRs K ws B H vs (is.map D.int) → vs = is.map fun i => kV (.inl i)
  | _, [], h => by cases h; rfl
  | _, i :: is, h => by
    rw [List.map_cons] at h
    cases h with
    | cons a r => cases a; rw [List.map_cons, ← drs_ints r]; rfl

section
variable {K : PySem.W.Frag}
end
end Pm
namespace Pm
open PySem PySem.Spec PyProof.Rows L2 RZ PySem.SeqAt PySem.W


end Pm
namespace Pm
open PySem PySem.Spec PyProof.Rows L2 RZ


section
variable {prog : Program} {w : World} {A : Around} {E : Value → Shared → Prop} {s : Shared} {r d : Addr} {es : Array DictEntry} {ep : Nat}
end
end Pm
namespace Pm
open PySem PySem.Spec PyProof.Rows L2 RZ


section
variable {X : Cx}
end


section
variable (K : PySem.W.Frag) (B' : Addr → Prop) (D0 : Addr) (sl : Ls) (σ : L2.St) (ws0 : Wa) (O0 : Addr → Prop) (H0 : Hp)
structure CDt (ws : Wa) (w : W) (es : List (List L2.Key × D)) (H : Hp) : Prop where
  le : Le ws0 O0 H0 ws (Own sl σ) H
  env : Env K ws B' sl w σ H
  nD : ¬ ws.has D0
  acc : ∃ kvs, H D0 = some (.dT kvs) ∧ KRG K ws (Bad ws B' sl σ) H kvs es
end
theorem KRG.keep' {K : PySem.W.Frag} {ws ws' : Wa} {B B' : Addr → Prop} {H H' : Hp} {kvs : List (List L2.Key × V)} {es : List (List L2.Key × D)} (h : KRG K ws B H kvs es) (f : DRs K ws B H (kvs.map (·.2)) (es.map (·.2)) → DRs K ws' B' H' (kvs.map (·.2)) (es.map (·.2))) : KRG K ws' B' H' kvs es := ⟨h.1, f h.2⟩
section
variable {K : PySem.W.Frag} {mg : Str → Option Value} {B' : Addr → Prop} {D0 : Addr} {sl sl2 : Ls} {σ σ2 : L2.St} {ws0 ws ws2 : Wa} {O0 : Addr → Prop} {H0 H H2 : Hp} {w w2 : W} {es es2 : List (List L2.Key × D)} {vs ts : List Nat} {p : Gk}
theorem CDt.grow {H' : Hp} (g : Grow H H') (c : CDt K B' D0 sl σ ws0 O0 H0 ws w es H) : CDt K B' D0 sl σ ws0 O0 H0 ws w es H' :=
  ⟨c.le.trans (g.le _ _), c.env.grow g, c.nD, let ⟨kvs, h1, h2⟩ := c.acc; ⟨kvs, g _ _ h1, h2.keep' (·.grow g)⟩⟩
theorem CDt.nO (hBD : B' D0) (c : CDt K B' D0 sl σ ws0 O0 H0 ws w es H) : ¬ Own sl σ D0 := fun ⟨j, dj, z1, z2⟩ => by
  obtain ⟨a, y1, y2, y3, y4⟩ := c.env.ow j dj z1
  rw [z2] at y1
  cases y1
  exact y4 hBD
theorem CDt.after (hBD : B' D0) (c : CDt K B' D0 sl σ ws0 O0 H0 ws w es H) (l : Le ws (Own sl σ) H ws2 (Own sl2 σ2) H2) (e : Env K ws2 B' sl2 w2 σ2 H2) : CDt K B' D0 sl2 σ2 ws0 O0 H0 ws2 w2 es H2 := by
  obtain ⟨kvs, h1, h2⟩ := c.acc
  refine ⟨c.le.trans l, e, fun z => ?_, kvs, l.keep D0 _ h1 c.nD (c.nO hBD), h2.keep' (·.le l)⟩
  rcases l.new D0 z with q | q
  · exact c.nD q
  · rw [h1] at q; cases q
theorem CDt.back (hno : noOw vs sl = true) (cc : CDt K B' D0 sl σ ws0 O0 H0 ws w es H) (l : Le ws (Own sl σ) H ws2 (Own sl2 σ2) H2) (c : CDt K B' D0 sl2 σ2 ws0 O0 H0 ws2 w2 es2 H2) (hw : L2.wipe σ2 vs = L2.wipe σ vs) (hs : ∀ j, j ∉ vs → sl2[j]? = sl[j]?) :
    CDt K B' D0 sl σ ws0 O0 H0 ws2 w2 es2 H2 ∧ Le ws2 (Own sl2 σ2) H2 ws2 (Own sl σ) H2 := by
  obtain ⟨l', e', l2⟩ := cc.env.back (fun a z => .inl z) hno l c.env hw hs
  obtain ⟨kvs, h1, h2⟩ := c.acc
  exact ⟨⟨c.le.trans l2, e', c.nD, kvs, h1, h2.keep' (·.le l2)⟩, l2⟩
theorem CDt.push {v : V} {d : D} {k : List L2.Key} (hB : B' D0) (hn0 : H0 D0 = none ∨ O0 D0) (c : CDt K B' D0 sl σ ws0 O0 H0 ws w es H) (hd : DR K ws (Bad ws B' sl σ) H v d) (hz : es.length < sizeLine) :
    ∃ kvs, H D0 = some (.dT kvs) ∧ kvs.length < sizeLine ∧ CDt K B' D0 sl σ ws0 O0 H0 ws w (putG es k d) (upd H D0 (.dT (putK kvs k v))) := by
  obtain ⟨kvs, h1, h2⟩ := c.acc
  have hk : ∀ b u, H b = some u → ¬ Bad ws B' sl σ b → upd H D0 (.dT (putK kvs k v)) b = some u := fun b u h n => by
    rw [upd_ne (fun z => n (.inr (.inl (by rw [z]; exact hB))))]; exact h
  have hx := upd_ex (o := .dT (putK kvs k v)) (sm h1)
  have hall := h2.put (k := k) hd
  refine ⟨kvs, h1, by rw [h2.len]; exact hz, ⟨⟨c.le.wle, c.le.new, c.le.own, fun b u q1 q2 q3 => ?_, fun b z => c.le.ex b (hx b z)⟩, c.env.setB hB c.nD (by rw [h1]; trivial) trivial, c.nD, _, upd_same, hall.keep' (fun r => r.keep ws.le_refl hk fun _ z => .inl z)⟩⟩
  rw [upd_ne (fun z => by
    rcases hn0 with hn0 | hn0
    · rw [z, hn0] at q1; cases q1
    · exact q3 (by rw [z]; exact hn0))]
  exact c.le.keep b u q1 q2 q3
end
section
variable {X : Cx} {Wx : WX} {kx vx tg iter : Expr} {scope : Scope} {own : List (Str × Nat)} {pos : Pos} {it : An} {p : Gk} {kf vf : Dn} {ts : List Nat}
end
end Pm
namespace Pm
open PySem PySem.Spec PyProof.Rows L2 RZ PySem.SeqAt PySem.W


end Pm
namespace Pm
open PySem PySem.Spec PyProof.Rows L2 RZ


def tPI (K : PySem.W.Frag) (mg : Str → Option Value) (Wx : WX) (ks : List Int) (g : An) : L2.St → Hp → (List (V × V) → Hp → Prop) → Prop := fun σ H Q => ∃ ws B0 sl w, Env K ws B0 sl w σ H ∧ runAt K mg Wx ws B0 sl σ H (g sl w) fun ws' _ ds H' => ds.length = ks.length ∧ ∀ vs, DRs K ws' (Bad ws' B0 sl σ) H' vs ds → Q ((ks.map V.int).zip vs) H'
structure PPmI (X : Cx) (Wx : WX) (pos : Pos) (keys : List (Option Expr)) (values : List Expr) (ks : List Int) (g : An) : Prop where
  get : ∃ trs, PPs X pos keys values trs ∧ ∀ σ H Q, tPI X.K X.mg Wx ks g σ H Q → tPairs trs σ H Q
section
variable {X : Cx} {Wx : WX} {pos : Pos} {keys : List (Option Expr)} {values : List Expr} {ks : List Int} {g : An}
end

end Pm
namespace Pm
open PySem PySem.Spec PyProof.Rows L2
def sNew (w : World) : Obj := { cls := .type "set", dict := none, data := .set #[] 0 (.fresh 0 0 (!w.params.followText "set-order")) }
section
variable {P : Program} {w : World} {A : Around} {E : Value → Shared → Prop} {s : Shared}
end


end Pm
namespace Pm
open PySem PySem.Spec PyProof.Rows L2


section
variable {X : Cx} {Wx : WX} {i ja jb : Nat} {x y z : Str} {px py pz ps pn p2 pt pos : Pos} {kt k2 : Nat}
end
end Pm
namespace Pm
open PySem PySem.Spec PyProof.Rows L2 RZ


section
variable {X : Cx} {Wx : WX} {ke ve : Expr} {pos : Pos} {f g : Dn}
end
end Pm
namespace Pm
open PySem PySem.Spec PyProof.Rows L2 RZ


def allG (ks : List (List L2.Key)) (d : D) : List (List L2.Key × D) := ks.foldl (fun acc k => putG acc k d) []
def allK (ks : List (List L2.Key)) (v : V) : List (List L2.Key × V) := ks.foldl (fun acc k => putK acc k v) []
theorem KRG.all {K : PySem.W.Frag} {ws : Wa} {B : Addr → Prop} {H : Hp} {v : V} {d : D} (hd : DR K ws B H v d) (ks : List (List L2.Key)) : KRG K ws B H (allK ks v) (allG ks d) := by
  unfold allK allG
  suffices h : ∀ (a : List (List L2.Key × V)) (b : List (List L2.Key × D)), KRG K ws B H a b → KRG K ws B H (ks.foldl (fun acc k => putK acc k v) a) (ks.foldl (fun acc k => putG acc k d) b) from h [] [] ⟨rfl, .nil⟩
  induction ks with
  | nil => exact fun _ _ h => h
  | cons k ks ih => exact fun a b h => ih _ _ (h.put hd)
section
variable {X : Cx} {Wx : WX} {kx vx tg iter : Expr} {scope : Scope} {y : Str} {pos : Pos} {f : Dn} {i j : Nat}
end
end Pm
namespace Pm
open PySem PySem.Spec PyProof.Rows L2 RZ


def mergeT (kvs more : List (List L2.Key × V)) : List (List L2.Key × V) := more.foldl (fun acc p => putK acc p.1 p.2) kvs
def mergeG (kvs more : List (List L2.Key × D)) : List (List L2.Key × D) := more.foldl (fun acc p => putG acc p.1 p.2) kvs
theorem KRG.merge {K : PySem.W.Frag} {ws : Wa} {B : Addr → Prop} {H : Hp} : ∀ {more : List (List L2.Key × V)} {m : List (List L2.Key × D)} {kvs : List (List L2.Key × V)} {es : List (List L2.Key × D)}, KRG K ws B H more m → KRG K ws B H kvs es → KRG K ws B H (mergeT kvs more) (mergeG es m)
  | [], [], _, _, _, q => q
  | [], _ :: _, _, _, r, _ => by cases r.1
  | _ :: _, [], _, _, r, _ => by cases r.1
  | p :: ps, q :: qs, kvs, es, r, q0 => by
    obtain ⟨h1, h2, h3⟩ := r.cons_of
    show KRG K ws B H (mergeT (putK kvs p.1 p.2) ps) (mergeG (putG es q.1 q.2) qs)
    refine KRG.merge h3 ?_
    rw [h1]
    exact q0.put h2
section
variable {X : Cx} {Wx : WX} {o e : Expr} {pos np apos cpos : Pos} {x : Str} {i : Nat} {f : Dn}
end
end Pm
namespace Pm
open PySem PySem.Spec PyProof.Rows L2


section
variable {P : Program} {w : World} {A : Around} {E : Value → Shared → Prop} {s : Shared}
theorem call_setLI {l : Addr} {its : Array Value} (ns : List Int) {Q : Value → Shared → Prop} (hA : A.handled = none) (ht : s.heap.IsList l its) (he : IntsAre its.toList ns) (hb : ns.length + 1 < scanBound)
    (kq : ∀ (g : Heap) (tk c : Nat), SetR w g s.heap.objs.size (fun j => decide (j ∈ ns)) c → c ≤ ns.length → (∀ b o, s.heap.get? b = some o → g.get? b = some o) → Q (.ref s.heap.objs.size) { s with heap := g, toks := tk }) :
    wpAny (model P w) A (call (.type "set") [.ref l]) Q E s := by
  have hn : its.size = ns.length := by
    have q := IntsAre.length he
    rw [Array.length_toList] at q
    exact q
  obtain ⟨c0, tl0, mro0⟩ := F.called_set.mro
  have mk0 := F.called_set.made
  have sb0 := F.called_set.sub
  refine wpAny_call (codeAny_of_tree ?_)
  show wpAny _ _ (callAny (.type "set") _) _ _ s
  refine wpAny_pure ⟨Code.quiet_builtin _ (by decide +kernel), codeAny_builtin F.entry_type_call ?_⟩
  rw [Around.under_plain (weight_type_call_type "set" [.ref l] []) rfl]
  have nt0 := F.called_set.notType
  have cc0 := F.called_set.canCreate
  have tc0 := F.typeCall_set_1 (.ref l)
  repeat (any_goals (first | assumption | wp_step))
  refine codeAny_mono (code_set_led1 (.ref l) (E := E) (Q₁ := fun y s₁ => y = .ref s.heap.objs.size ∧ s₁ = { s with heap := s.heap.push (sNew w) }) ⟨rfl, rfl⟩) fun r s₁ hr => ?_
  cases r with
  | error e => exact hr
  | ok fl =>
    cases fl with
    | ret obj =>
      obtain ⟨rfl, rfl⟩ := hr
      have g0 : (s.heap.push (sNew w)).get? s.heap.objs.size = some (sNew w) := Heap.get?_push_size _ rfl
      have ty : Shared.TypeIs { s with heap := s.heap.push (sNew w) } (.ref s.heap.objs.size) "set" := ⟨_, g0, rfl⟩
      have il := F.called_set.init.lookup
      have ib := F.called_set.init.bind (.ref s.heap.objs.size)
      repeat (any_goals (first | assumption | wp_step))
      refine codeAny_mono (codeAny_call_builtin (R := wants (fun r s₂ => r = .none ∧ ∃ g tk c, s₂ = { s with heap := g, toks := tk } ∧ SetR w g s.heap.objs.size (fun j => decide (j ∈ ns)) c ∧ c ≤ ns.length ∧ (∀ b o, s.heap.get? b = some o → g.get? b = some o)) E)
        F.called_set.init.plain F.entry_set_init (check_set_init_1 ty ?_)) fun r₂ s₂ hr₂ => ?_
      · obtain ⟨o0, ho0, hc0, n0, hd0⟩ := ht
        obtain ⟨oc, od, odt, os⟩ := o0
        simp only at hc0 hd0
        subst hc0; subst hd0
        have ho1 : (s.heap.push (sNew w)).get? l = some { cls := .type "list", dict := od, data := .seq its n0, slots := os } := Heap.get?_push_of_some _ ho0
        have st1 := F.sub_list_set
        have st2 := F.sub_list_frozenset
        have nd : (Value.type "list" == Value.type "dict") = false := by decide
        have it1 : (s.heap.push (sNew w)).IsList l its := ⟨_, ho1, rfl, n0, rfl⟩
        unfold sNew at *
        unfold Builtin.«set.__init__» noKeywords Builtin.Frozenset.updateFrom
        generalize hPI : pyIter = PI
        wp_walk
        subst hPI
        refine wpAny_pyIter_list it1 ?_
        refine wpAny_bind (wpAny_runValue ?_)
        have lt : l < s.heap.objs.size := Heap.lt_size ho0
        have hA3 : A.in1.in1.in1.handled = none := by simp [hA]
        have sz1 : (s.heap.push (sNew w)).objs.size = s.heap.objs.size + 1 := Heap.size_push ..
        have neI : l ≠ (s.heap.push (sNew w)).objs.size := by rw [sz1]; exact fun z => Nat.lt_irrefl _ (Nat.lt_trans (z ▸ lt) (Nat.lt_succ_self _))
        have nf : s.heap.objs.size ∉ [(s.heap.push (sNew w)).objs.size, l] := by
          rw [sz1]
          intro z
          rcases List.mem_cons.mp z with z | z
          · exact absurd z (Nat.ne_of_lt (Nat.lt_succ_self _))
          · exact absurd (List.mem_singleton.mp z) (Nat.ne_of_gt lt)
        have val : ∀ (i : Nat) (v : Value), its[i]? = some v → ∃ k t, ns[i]? = some k ∧ v = .int k t := fun i v hv => by
          have hi : i < ns.length := by rw [← hn]; exact (Array.getElem?_eq_some_iff.mp hv).1
          obtain ⟨t, e⟩ := PyProof.Rows.IntsAre.int_at he i v (by rw [Array.getElem?_toList]; exact hv)
          refine ⟨ns[i], t, List.getElem?_eq_getElem hi, ?_⟩
          rw [e, List.getD_eq_getElem?_getD, List.getElem?_eq_getElem hi] <;> rfl
        refine set_update_ints ((Walks.list hA3 _ l neI its).toS) s.heap.objs.size nf ns hn hb val (its.size - 0) 0 _ (by omega) (Nat.zero_le _)
          ⟨⟨_, Heap.get?_push_size _ rfl, rfl, rfl⟩, (it1.push _)⟩ ?first ?last
        case first =>
          have g1 : ((s.heap.push (sNew w)).push { cls := .type "list_iterator", data := .fields #[.ref l, .int 0 0] }).get? s.heap.objs.size = some (sNew w) := Heap.get?_push_of_some _ g0
          exact ⟨0, Nat.le_refl 0, setR_new_at g1⟩
        case last =>
          intro s' c hm hc hS
          obtain ⟨g, g2, d', tk', os'⟩ := s'
          obtain rfl : g2 = s.gens := hm.gens
          obtain rfl : d' = s.drawn := hm.drawn
          obtain rfl : os' = s.os := hm.os
          show wpAny _ _ _ _ _ _
          refine wpAny_pure ?_
          show wpAny _ _ (ret Value.none) _ _ _
          rw [hn] at hc
          refine wpAny_pure ⟨rfl, g, tk', c, rfl, hS, hc, fun b o e => ?_⟩
          have b0 : b < s.heap.objs.size := Heap.lt_size e
          refine hm.heap b o (fun z => ?_) (Heap.get?_push_of_some _ (Heap.get?_push_of_some _ e))
          rcases List.mem_cons.mp z with z | z
          · exact Nat.ne_of_lt b0 z
          · have := List.mem_singleton.mp z
            rw [Heap.size_push] at this
            exact absurd this (Nat.ne_of_lt (Nat.lt_succ_of_lt b0))
      · cases r₂ with
        | error e => exact hr₂
        | ok fl₂ =>
          cases fl₂ with
          | ret r =>
            obtain ⟨rfl, g, tk, c, rfl, hS, hc, hk'⟩ := hr₂
            repeat (any_goals (first | assumption | wp_step))
            exact kq _ _ _ hS hc hk'
          | _ => exact hr₂.elim
    | _ => exact hr.elim
theorem call_setTI {l : Addr} {its : Array Value} (ns : List Int) {Q : Value → Shared → Prop} (hA : A.handled = none) (ht : s.heap.IsTuple l its) (he : IntsAre its.toList ns) (hb : ns.length + 1 < scanBound)
    (kq : ∀ (g : Heap) (tk c : Nat), SetR w g s.heap.objs.size (fun j => decide (j ∈ ns)) c → c ≤ ns.length → (∀ b o, s.heap.get? b = some o → g.get? b = some o) → Q (.ref s.heap.objs.size) { s with heap := g, toks := tk }) :
    wpAny (model P w) A (call (.type "set") [.ref l]) Q E s := by
  have hn : its.size = ns.length := by
    have q := IntsAre.length he
    rw [Array.length_toList] at q
    exact q
  obtain ⟨c0, tl0, mro0⟩ := F.called_set.mro
  have mk0 := F.called_set.made
  have sb0 := F.called_set.sub
  refine wpAny_call (codeAny_of_tree ?_)
  show wpAny _ _ (callAny (.type "set") _) _ _ s
  refine wpAny_pure ⟨Code.quiet_builtin _ (by decide +kernel), codeAny_builtin F.entry_type_call ?_⟩
  rw [Around.under_plain (weight_type_call_type "set" [.ref l] []) rfl]
  have nt0 := F.called_set.notType
  have cc0 := F.called_set.canCreate
  have tc0 := F.typeCall_set_1 (.ref l)
  repeat (any_goals (first | assumption | wp_step))
  refine codeAny_mono (code_set_led1 (.ref l) (E := E) (Q₁ := fun y s₁ => y = .ref s.heap.objs.size ∧ s₁ = { s with heap := s.heap.push (sNew w) }) ⟨rfl, rfl⟩) fun r s₁ hr => ?_
  cases r with
  | error e => exact hr
  | ok fl =>
    cases fl with
    | ret obj =>
      obtain ⟨rfl, rfl⟩ := hr
      have g0 : (s.heap.push (sNew w)).get? s.heap.objs.size = some (sNew w) := Heap.get?_push_size _ rfl
      have ty : Shared.TypeIs { s with heap := s.heap.push (sNew w) } (.ref s.heap.objs.size) "set" := ⟨_, g0, rfl⟩
      have il := F.called_set.init.lookup
      have ib := F.called_set.init.bind (.ref s.heap.objs.size)
      repeat (any_goals (first | assumption | wp_step))
      refine codeAny_mono (codeAny_call_builtin (R := wants (fun r s₂ => r = .none ∧ ∃ g tk c, s₂ = { s with heap := g, toks := tk } ∧ SetR w g s.heap.objs.size (fun j => decide (j ∈ ns)) c ∧ c ≤ ns.length ∧ (∀ b o, s.heap.get? b = some o → g.get? b = some o)) E)
        F.called_set.init.plain F.entry_set_init (check_set_init_1 ty ?_)) fun r₂ s₂ hr₂ => ?_
      · obtain ⟨o0, ho0, hc0, n0, hd0⟩ := ht
        obtain ⟨oc, od, odt, os⟩ := o0
        simp only at hc0 hd0
        subst hc0; subst hd0
        have ho1 : (s.heap.push (sNew w)).get? l = some { cls := .type "tuple", dict := od, data := .seq its n0, slots := os } := Heap.get?_push_of_some _ ho0
        have st1 := F.sub_tuple_set
        have st2 := F.sub_tuple_frozenset
        have nd : (Value.type "tuple" == Value.type "dict") = false := by decide
        have it1 : (s.heap.push (sNew w)).IsTuple l its := ⟨_, ho1, rfl, n0, rfl⟩
        unfold sNew at *
        unfold Builtin.«set.__init__» noKeywords Builtin.Frozenset.updateFrom
        generalize hPI : pyIter = PI
        wp_walk
        subst hPI
        refine wpAny_pyIter_tuple it1 ?_
        refine wpAny_bind (wpAny_runValue ?_)
        have lt : l < s.heap.objs.size := Heap.lt_size ho0
        have hA3 : A.in1.in1.in1.handled = none := by simp [hA]
        have sz1 : (s.heap.push (sNew w)).objs.size = s.heap.objs.size + 1 := Heap.size_push ..
        have neI : l ≠ (s.heap.push (sNew w)).objs.size := by rw [sz1]; exact fun z => Nat.lt_irrefl _ (Nat.lt_trans (z ▸ lt) (Nat.lt_succ_self _))
        have nf : s.heap.objs.size ∉ [(s.heap.push (sNew w)).objs.size, l] := by
          rw [sz1]
          intro z
          rcases List.mem_cons.mp z with z | z
          · exact absurd z (Nat.ne_of_lt (Nat.lt_succ_self _))
          · exact absurd (List.mem_singleton.mp z) (Nat.ne_of_gt lt)
        have val : ∀ (i : Nat) (v : Value), its[i]? = some v → ∃ k t, ns[i]? = some k ∧ v = .int k t := fun i v hv => by
          have hi : i < ns.length := by rw [← hn]; exact (Array.getElem?_eq_some_iff.mp hv).1
          obtain ⟨t, e⟩ := PyProof.Rows.IntsAre.int_at he i v (by rw [Array.getElem?_toList]; exact hv)
          refine ⟨ns[i], t, List.getElem?_eq_getElem hi, ?_⟩
          rw [e, List.getD_eq_getElem?_getD, List.getElem?_eq_getElem hi] <;> rfl
        refine set_update_ints ((Walks.tuple hA3 _ l neI its).toS) s.heap.objs.size nf ns hn hb val (its.size - 0) 0 _ (by omega) (Nat.zero_le _)
          ⟨⟨_, Heap.get?_push_size _ rfl, rfl, rfl⟩, (it1.push _)⟩ ?first ?last
        case first =>
          have g1 : ((s.heap.push (sNew w)).push { cls := .type "tuple_iterator", data := .fields #[.ref l, .int 0 0] }).get? s.heap.objs.size = some (sNew w) := Heap.get?_push_of_some _ g0
          exact ⟨0, Nat.le_refl 0, setR_new_at g1⟩
        case last =>
          intro s' c hm hc hS
          obtain ⟨g, g2, d', tk', os'⟩ := s'
          obtain rfl : g2 = s.gens := hm.gens
          obtain rfl : d' = s.drawn := hm.drawn
          obtain rfl : os' = s.os := hm.os
          show wpAny _ _ _ _ _ _
          refine wpAny_pure ?_
          show wpAny _ _ (ret Value.none) _ _ _
          rw [hn] at hc
          refine wpAny_pure ⟨rfl, g, tk', c, rfl, hS, hc, fun b o e => ?_⟩
          have b0 : b < s.heap.objs.size := Heap.lt_size e
          refine hm.heap b o (fun z => ?_) (Heap.get?_push_of_some _ (Heap.get?_push_of_some _ e))
          rcases List.mem_cons.mp z with z | z
          · exact Nat.ne_of_lt b0 z
          · have := List.mem_singleton.mp z
            rw [Heap.size_push] at this
            exact absurd this (Nat.ne_of_lt (Nat.lt_succ_of_lt b0))
      · cases r₂ with
        | error e => exact hr₂
        | ok fl₂ =>
          cases fl₂ with
          | ret r =>
            obtain ⟨rfl, g, tk, c, rfl, hS, hc, hk'⟩ := hr₂
            repeat (any_goals (first | assumption | wp_step))
            exact kq _ _ _ hS hc hk'
          | _ => exact hr₂.elim
    | _ => exact hr.elim
end
def insI (x : Int) : List Int → List Int
  | [] => [x]
  | y :: r => if x < y then x :: y :: r else if x = y then y :: r else y :: insI x r
def srtI (l : List Int) : List Int := l.foldr insI []
theorem insI_mem {x z : Int} : ∀ {l : List Int}, z ∈ insI x l ↔ z = x ∨ z ∈ l
  | [] => by simp [insI]
  | y :: r => by
    unfold insI
    split
    · simp
    · split
      · rename_i h; simp [h]
      · simp only [List.mem_cons, insI_mem]
        constructor
        · rintro (h | h | h)
          · exact .inr (.inl h)
          · exact .inl h
          · exact .inr (.inr h)
        · rintro (h | h | h)
          · exact .inr (.inl h)
          · exact .inl h
          · exact .inr (.inr h)
theorem insI_inc {x : Int} : ∀ {l : List Int}, l.Pairwise (· < ·) → (insI x l).Pairwise (· < ·)
  | [], _ => by simp [insI]
  | y :: r, h => by
    obtain ⟨h1, h2⟩ := List.pairwise_cons.mp h
    unfold insI
    split
    · rename_i q
      refine List.pairwise_cons.mpr ⟨fun z hz => ?_, h⟩
      rcases List.mem_cons.mp hz with e | e
      · rw [e]; exact q
      · have := h1 z e; omega
    · split
      · exact h
      · rename_i q1 q2
        refine List.pairwise_cons.mpr ⟨fun z hz => ?_, insI_inc h2⟩
        rcases insI_mem.mp hz with e | e
        · rw [e]; omega
        · exact h1 z e
theorem srtI_mem {z : Int} : ∀ {l : List Int}, z ∈ srtI l ↔ z ∈ l
  | [] => by simp [srtI]
  | x :: l => by
    show z ∈ insI x (srtI l) ↔ _
    rw [insI_mem, srtI_mem, List.mem_cons]
theorem srtI_inc : ∀ (l : List Int), (srtI l).Pairwise (· < ·)
  | [] => List.Pairwise.nil
  | x :: l => insI_inc (srtI_inc l)
theorem nodup_len {a b : List Int} (ha : a.Nodup) (hb : b.Nodup) (h : ∀ z, z ∈ a ↔ z ∈ b) : a.length = b.length :=
  ((List.perm_ext_iff_of_nodup ha hb).mpr h).length_eq
theorem setR_len {w : World} {h : Heap} {a : Addr} {ns : List Int} {c : Nat} (R : SetR w h a (fun j => decide (j ∈ ns)) c) : c = (srtI ns).length := by
  obtain ⟨o, es, ep, t, ho, hex, hd, g, nd, hm, hb, hf, hn, _⟩ := R
  rw [← hn, ← Array.length_toList, ← List.length_map (f := keyOf)]
  refine nodup_len nd ((srtI_inc ns).imp fun z => Int.ne_of_lt z) fun z => ?_
  rw [← hm z, srtI_mem, decide_eq_true_eq]
def rSetI (K : PySem.W.Frag) (w : World) : List V → Hp → VK → Prop := fun xs H Q => ∃ (l : Addr) (ns : List Int), xs = [V.ref l] ∧ (SqL K H l (ns.map V.int) ∨ SqT K H l (ns.map V.int)) ∧ ns.length ≤ 1000 ∧
  ∀ a, H a = none → Q (.ref a) (upd H a (SetO w a (fun j => decide (j ∈ ns)) (srtI ns).length))
theorem cr_setI {X : Cx} (hc : X.calm = true) : CallR X (.type "set") (rSetI X.K X.w) := by
  intro pins s σ H xs us Q I r h
  obtain ⟨l, ns, rfl, hl, hz, q⟩ := h
  obtain rfl := Vals.ref1 r
  have hn : H s.heap.objs.size = none := I.hok.fresh (Nat.le_refl _)
  have fin : ∀ (g : Heap) (tk c : Nat), SetR X.w g s.heap.objs.size (fun j => decide (j ∈ ns)) c → c ≤ ns.length → (∀ b o, s.heap.get? b = some o → g.get? b = some o) → EP X pins σ Q (.ref s.heap.objs.size) { s with heap := g, toks := tk } := fun g tk c R _ k => by
    obtain rfl := setR_len R
    exact ⟨.ref s.heap.objs.size, upd H s.heap.objs.size (SetO X.w s.heap.objs.size (fun j => decide (j ∈ ns)) (srtI ns).length), I.laid (t' := tk) k (Nat.le_refl _) (setO_new R), rfl, q _ hn⟩
  rcases hl with hl | hl
  · obtain ⟨its, rv, pl, _⟩ := I.list hl
    exact call_setLI ns (I.ok.hd hc) pl.isList (by simpa using ints_of_vals rv) (by unfold scanBound; omega) fin
  · obtain ⟨its, rv, pl, _⟩ := I.tuple hl
    exact call_setTI ns (I.ok.hd hc) pl (by simpa using ints_of_vals rv) (by unfold scanBound; omega) fin
theorem intsV : ∀ (is : List Int), (is.map fun i => kV (.inl i)) = is.map V.int
  | [] => rfl
  | i :: is => by rw [List.map_cons, List.map_cons, intsV is]; rfl
end Pm
namespace Pm
open PySem PySem.Spec PyProof.Rows L2


section
variable {prog : Program} {w : World} {A : Around} {E : Value → Shared → Prop} {s : Shared}
end
end Pm
namespace Pm
open PySem PySem.Spec PyProof.Rows L2 RZ


section
variable {n : Nat}
section
variable {K : PySem.W.Frag}
end
section
variable {X : Cx} {Wx : WX} {ke ve : Expr} {pos : Pos} {f g : Dn}
end
end
end Pm
namespace Pm
open PySem PySem.Spec PyProof.Rows L2 RZ PpSet


section
variable {X : Cx}
end
end Pm
namespace Pm
open PySem PySem.Spec PyProof.Rows L2 RZ


def TL (K : PySem.W.Frag) (ws : Wa) (B : Addr → Prop) (H : Hp) (L : List (Addr × List Int)) : Prop := DRs K ws B H (L.map fun p => V.ref p.1) (L.map fun p => D.tup (p.2.map D.int))
section
variable {K : PySem.W.Frag} {ws ws' : Wa} {B B' : Addr → Prop} {H H' : Hp}
theorem TL.mem : ∀ {L : List (Addr × List Int)}, TL K ws B H L → ∀ p ∈ L, DR K ws B H (.ref p.1) (.tup (p.2.map D.int))
  | [], _, p, hp => by cases hp
  | q :: L, h, p, hp => by
    unfold TL at h
    rw [List.map_cons, List.map_cons] at h
    cases h with
    | cons a b =>
      rcases List.mem_cons.mp hp with rfl | hp
      · exact a
      · exact TL.mem b p hp
theorem TL.of : ∀ {L : List (Addr × List Int)}, (∀ p ∈ L, DR K ws B H (.ref p.1) (.tup (p.2.map D.int))) → TL K ws B H L
  | [], _ => .nil
  | q :: L, h => .cons (h q List.mem_cons_self) (TL.of fun p hp => h p (List.mem_cons_of_mem _ hp))
theorem sqT_ints {b : Addr} {k : List Int} (h : DR K ws B H (.ref b) (.tup (k.map D.int))) : SqT K H b (k.map V.int) := by
  cases h with
  | tup z t r =>
    have e := drs_ints r
    rw [intsV] at e
    subst e
    exact t.sq
end
section
variable (P : Program) (wl : World) (K : PySem.W.Frag) (B' : Addr → Prop) (D0 : Addr) (sl : Ls) (σ : L2.St) (ws0 : Wa) (O0 : Addr → Prop) (H0 : Hp)
structure CSt (ws : Wa) (w : W) (es : List (List Int)) (H : Hp) : Prop where
  le : Le ws0 O0 H0 ws (Own sl σ) H
  env : Env K ws B' sl w σ H
  nD : ¬ ws.has D0
  acc : ∃ L od, H D0 = some (.frz od (SetTO P wl D0 L)) ∧ (L.map (·.2)).Perm es ∧ TL K ws (Bad ws B' sl σ) H L
end
section
variable {P : Program} {wl : World} {K : PySem.W.Frag} {mg : Str → Option Value} {B' : Addr → Prop} {D0 : Addr} {sl sl2 : Ls} {σ σ2 : L2.St} {ws0 ws ws2 : Wa} {O0 : Addr → Prop} {H0 H H2 : Hp} {w w2 : W} {es es2 : List (List Int)} {vs ts : List Nat} {p : Gk}
theorem CSt.grow {H' : Hp} (g : Grow H H') (c : CSt P wl K B' D0 sl σ ws0 O0 H0 ws w es H) : CSt P wl K B' D0 sl σ ws0 O0 H0 ws w es H' :=
  ⟨c.le.trans (g.le _ _), c.env.grow g, c.nD, let ⟨L, od, h1, h2, h3⟩ := c.acc; ⟨L, od, g _ _ h1, h2, DRs.grow g h3⟩⟩
theorem CSt.nO (hBD : B' D0) (c : CSt P wl K B' D0 sl σ ws0 O0 H0 ws w es H) : ¬ Own sl σ D0 := fun ⟨j, dj, z1, z2⟩ => by
  obtain ⟨a, y1, y2, y3, y4⟩ := c.env.ow j dj z1
  rw [z2] at y1
  cases y1
  exact y4 hBD
theorem CSt.after (hBD : B' D0) (c : CSt P wl K B' D0 sl σ ws0 O0 H0 ws w es H) (l : Le ws (Own sl σ) H ws2 (Own sl2 σ2) H2) (e : Env K ws2 B' sl2 w2 σ2 H2) : CSt P wl K B' D0 sl2 σ2 ws0 O0 H0 ws2 w2 es H2 := by
  obtain ⟨L, od, h1, h2, h3⟩ := c.acc
  refine ⟨c.le.trans l, e, fun z => ?_, L, od, l.keep D0 _ h1 c.nD (c.nO hBD), h2, DRs.le l h3⟩
  rcases l.new D0 z with q | q
  · exact c.nD q
  · rw [h1] at q; cases q
theorem CSt.back (hno : noOw vs sl = true) (cc : CSt P wl K B' D0 sl σ ws0 O0 H0 ws w es H) (l : Le ws (Own sl σ) H ws2 (Own sl2 σ2) H2) (c : CSt P wl K B' D0 sl2 σ2 ws0 O0 H0 ws2 w2 es2 H2) (hw : L2.wipe σ2 vs = L2.wipe σ vs) (hs : ∀ j, j ∉ vs → sl2[j]? = sl[j]?) :
    CSt P wl K B' D0 sl σ ws0 O0 H0 ws2 w2 es2 H2 ∧ Le ws2 (Own sl2 σ2) H2 ws2 (Own sl σ) H2 := by
  obtain ⟨l', e', l2⟩ := cc.env.back (fun a z => .inl z) hno l c.env hw hs
  obtain ⟨L, od, h1, h2, h3⟩ := c.acc
  exact ⟨⟨c.le.trans l2, e', c.nD, L, od, h1, h2, DRs.le l2 h3⟩, l2⟩
theorem CSt.push {b : Addr} {k : List Int} (hB : B' D0) (hn0 : H0 D0 = none ∨ O0 D0) (c : CSt P wl K B' D0 sl σ ws0 O0 H0 ws w es H) (hd : DR K ws (Bad ws B' sl σ) H (.ref b) (.tup (k.map D.int))) (hz : es.length + 1 < 64) :
    ∃ L od, H D0 = some (.frz od (SetTO P wl D0 L)) ∧ (∀ p ∈ L, SqT K H p.1 (p.2.map V.int)) ∧ L.length + 1 < 64 ∧ ∀ (L' : List (Addr × List Int)) (od' : Obj), (k ∈ L.map (·.2) → L' = L) → (k ∉ L.map (·.2) → L'.Perm ((b, k) :: L)) →
      CSt P wl K B' D0 sl σ ws0 O0 H0 ws w (if k ∈ es then es else es ++ [k]) (upd H D0 (.frz od' (SetTO P wl D0 L'))) := by
  obtain ⟨L, od, h1, h2, h3⟩ := c.acc
  have hlen : L.length = es.length := by have := h2.length_eq; rwa [List.length_map] at this
  refine ⟨L, od, h1, fun p hp => sqT_ints (h3.mem p hp), by omega, fun L' od' c1 c2 => ?_⟩
  have hk : ∀ b u, H b = some u → ¬ Bad ws B' sl σ b → upd H D0 (.frz od' (SetTO P wl D0 L')) b = some u := fun b u h n => by
    rw [upd_ne (fun z => n (.inr (.inl (by rw [z]; exact hB))))]; exact h
  have hx := upd_ex (o := .frz od' (SetTO P wl D0 L')) (sm h1)
  have hall : ∀ p ∈ L', DR K ws (Bad ws B' sl σ) H (.ref p.1) (.tup (p.2.map D.int)) := fun p hp => by
    by_cases m : k ∈ L.map (·.2)
    · rw [c1 m] at hp; exact h3.mem p hp
    · rcases List.mem_cons.mp ((c2 m).mem_iff.mp hp) with e | e
      · rw [e]; exact hd
      · exact h3.mem p e
  have hperm : (L'.map (·.2)).Perm (if k ∈ es then es else es ++ [k]) := by
    by_cases m : k ∈ L.map (·.2)
    · rw [if_pos (h2.mem_iff.mp m), c1 m]; exact h2
    · rw [if_neg fun z => m (h2.mem_iff.mpr z)]
      refine ((c2 m).map (·.2)).trans ?_
      rw [List.map_cons]
      exact (List.Perm.cons k h2).trans (List.perm_append_singleton k es).symm
  refine ⟨⟨c.le.wle, c.le.new, c.le.own, fun b u q1 q2 q3 => ?_, fun b z => c.le.ex b (hx b z)⟩, c.env.setB hB c.nD (by rw [h1]; trivial) trivial, c.nD, L', od', upd_same, hperm, DRs.keep ws.le_refl hk (fun _ z => .inl z) (TL.of hall)⟩
  rw [upd_ne (fun z => by
    rcases hn0 with hn0 | hn0
    · rw [z, hn0] at q1; cases q1
    · exact q3 (by rw [z]; exact hn0))]
  exact c.le.keep b u q1 q2 q3
end
section
variable {X : Cx} {Wx : WX} {vx tg iter : Expr} {scope : Scope} {own : List (Str × Nat)} {pos pos2 np : Pos} {it : An} {p : Gk} {vf : Dn} {ts : List Nat}
end
end Pm
namespace Pm
open PySem PySem.Spec PyProof.Rows L2 RZ


end Pm

namespace Pm
open PySem PySem.Spec PyProof.Rows L2
section
variable {P : Program} {w : World} {A : Around} {E : Value → Shared → Prop} {s : Shared}
variable {a : Addr} {L : List (Addr × List Int)} {es : Array (Int × Value)} {ep : Nat} {t : SetTable}
end
end Pm
namespace Pm
open PySem PySem.Spec PyProof.Rows L2
end Pm

namespace Pm
open PySem PySem.Spec PyProof.Rows L2
section
variable {K : PySem.W.Frag} {mg : Str → Option Value} {Wx : WX} {ws ws' : Wa} {B0 B : Addr → Prop} {sl : Ls} {w w' : W} {σ : L2.St} {H H' : Hp} {v : V} {d : D} {ob : List (Addr × Bool)}
theorem FPs.lookup {f : Str} : ∀ {fv : List (Str × V)} {fs : List (Str × D)}, Paired (FP K ob H) fv fs → (∀ d, fs.lookup f = some d → ∃ v, fv.lookup f = some v ∧ FR K ob H v d) ∧ (fs.lookup f = none → fv.lookup f = none)
  | _, _, .nil => ⟨fun d h => by simp at h, fun _ => rfl⟩
  | (g, x) :: fv, (g', y) :: fs, .cons h r => by
    obtain ⟨e, h2⟩ := h
    simp only at e h2
    subst e
    obtain ⟨r1, r2⟩ := FPs.lookup (f := f) r
    by_cases z : f = g
    · subst z
      refine ⟨fun d hd => ?_, fun hn => ?_⟩
      · rw [List.lookup_cons_self] at hd
        cases hd
        exact ⟨x, List.lookup_cons_self, h2⟩
      · rw [List.lookup_cons_self] at hn; cases hn
    · have zb : (f == g) = false := by simpa using z
      refine ⟨fun d hd => ?_, fun hn => ?_⟩
      · simp only [List.lookup_cons, zb] at hd ⊢
        exact r1 d hd
      · simp only [List.lookup_cons, zb] at hn ⊢
        exact r2 hn
end
section
variable {X : Cx} {Wx : WX} {a o e value : Expr} {pos pos' : Pos} {c f : Str} {g h : Dn}
end
end Pm

namespace Pm
open PySem PySem.Spec PyProof.Rows L2
section
variable {K : PySem.W.Frag} {mg : Str → Option Value} {Wx : WX} {ws ws' : Wa} {B0 B : Addr → Prop} {sl : Ls} {w w' : W} {σ : L2.St} {H H' : Hp} {v : V} {d : D} {ob : List (Addr × Bool)}
theorem TRs.get {d : D} : ∀ {vs : List V} {ds : List D}, TRs K H vs ds → ∀ i : Nat, ds[i]? = some d → ∃ v, vs[i]? = some v ∧ TR K H v d
  | _, _, .nil, i, h => by simp at h
  | _, _, .cons h r, 0, e => by simp at e; subst e; exact ⟨_, rfl, h⟩
  | _, _, .cons h r, i + 1, e => by
    obtain ⟨v, h1, h2⟩ := TRs.get r i (by simpa using e)
    exact ⟨v, by simpa using h1, h2⟩
end
section
variable {X : Cx} {Wx : WX} {e v : Expr} {pos apos cpos : Pos} {f g : Dn}
end
end Pm
namespace Pm
open PySem PySem.Spec PyProof.Rows L2
section
variable {K : PySem.W.Frag} {mg : Str → Option Value} {Wx : WX} {ws ws' : Wa} {B0 B : Addr → Prop} {sl : Ls} {w w' : W} {σ : L2.St} {H H' : Hp} {v : V} {d : D} {ob : List (Addr × Bool)}
end
section
variable {X : Cx} {Wx : WX} {elt tg iter : Expr} {scope : Scope} {own : List (Str × Nat)} {pos : Pos} {g : Dn} {p : Gk} {f : Dn} {ts : List Nat}
end
end Pm

namespace Pm
open PySem PySem.Spec PyProof.Rows L2
def CalT (P : Program) (w : World) (K : PySem.W.Frag) (mg : Str → Option Value) (base : Heap) (k : Nat) (c m : Str) (ps : List Str) (mf : Mf) : Prop := ∃ f fd, Meth K (clsK K c) m f ∧ Binds K fd ps [] ∧ FnOk P w K mg base (L2.CX P w) k f fd ps (spF K mg ps.length mf)
abbrev FunTK (K : PySem.W.Frag) (c m q : Str) (st : Stmt) (kws : List (Str × V)) (f : Addr) (fd : FuncData) : Prop := FunD K m q (defArgs st) (defBody st) (defScope st) [] kws f fd
def CalTK (P : Program) (w : World) (K : PySem.W.Frag) (mg : Str → Option Value) (base : Heap) (k : Nat) (c m q : Str) (st : Stmt) (ps : List Str) (kws : List (Str × V)) (mf : Mf) : Prop := ∃ f fd, Meth K (clsK K c) m f ∧ FunTK K c m q st kws f fd ∧ FnOk P w K mg base (L2.CX P w) k f fd ps (spF K mg ps.length mf)
structure ClsX (K : PySem.W.Frag) (mg : Str → Option Value) (c : Str) : Prop where
  cl : Cls K (clsK K c)
  mks : PySem.W.makesIn K (clsK K c) = true
  kp : PySem.W.keepIn K (.ref (clsK K c)) = true
  gl : mg c = some (.ref (clsK K c))
section
variable {P : Program} {w : World} {K : PySem.W.Frag} {mg : Str → Option Value} {base : Heap}
theorem CalT.mono {j k : Nat} {c x : Str} {ps : List Str} {m : Mf} (h : CalT P w K mg base j c x ps m) (l : j ≤ k) : CalT P w K mg base k c x ps m := by
  obtain ⟨f, fd, h1, h2, h3⟩ := h
  exact ⟨f, fd, h1, h2, h3.mono l⟩
theorem CalTK.mono {j k : Nat} {c x q : Str} {st : Stmt} {ps : List Str} {kws : List (Str × V)} {m : Mf} (h : CalTK P w K mg base j c x q st ps kws m) (l : j ≤ k) : CalTK P w K mg base k c x q st ps kws m := by
  obtain ⟨f, fd, h1, h2, h3⟩ := h
  exact ⟨f, fd, h1, h2, h3.mono l⟩
end
section
variable {K : PySem.W.Frag} {mg : Str → Option Value} {Wx : WX} {ws ws' : Wa} {B0 B : Addr → Prop} {sl : Ls} {w w' : W} {σ : L2.St} {H H' : Hp} {v : V} {d : D}
end
section
variable {X : Cx} {Wx : WX} {o e : Expr} {es : List Expr} {pos apos p : Pos} {c nm x : Str} {f : Dn} {g gk : An} {kas : List Keyword}
end
end Pm

namespace Pm
open PySem PySem.Spec PyProof.Rows L2
section
variable {X : Cx} {Wx : WX} {o e : Expr} {es : List Expr} {pos apos p : Pos} {c nm qn x : Str} {f : Dn} {g gk : An} {kas : List Keyword}
end

section
variable {K : PySem.W.Frag} {mg : Str → Option Value} {Wx : WX} {ws ws' : Wa} {B0 B : Addr → Prop} {sl : Ls} {w w' : W} {σ : L2.St} {H H' : Hp} {v : V} {d : D}
end
section
variable {X : Cx} {Wx : WX} {e : Expr} {es : List Expr} {pos p : Pos} {c x : Str} {g : An}
end
end Pm

namespace Pm
open PySem PySem.Spec PyProof.Rows L2
section
variable {X : Cx} {pins : List (Addr × Obj)} {σ : L2.St} {H : Hp} {s : Shared} {a C dx f : Addr} {fv : List (Str × V)} {A : Around} {E : Value → Shared → Prop}
end
section
variable {X : Cx}
end
section
variable {K : PySem.W.Frag} {mg : Str → Option Value} {Wx : WX} {ws ws' : Wa} {B0 B : Addr → Prop} {sl : Ls} {w w' : W} {σ : L2.St} {H H' : Hp}
end
section
variable {X : Cx} {Wx : WX} {e : Expr} {pos p : Pos} {c : Str} {f : Dn} {m : Mf} {ps : List Str}
end

section
variable {X : Cx} {Wx : WX} {e v1 v2 : Expr} {es rest : List Expr} {pos p : Pos} {f : Dn} {fs : List Dn}
inductive PJm (X : Cx) (Wx : WX) : List Expr → List Dn → Prop
  | nil : PJm X Wx [] []
  | cons {e : Expr} {f : Dn} {es : List Expr} {fs : List Dn} (h : PEm X Wx e f) (r : PJm X Wx es fs) : PJm X Wx (e :: es) (f :: fs)
end
end Pm

namespace PySem
namespace HandSPX
section
variable {M : Model} {A : Around} {E : Value → Shared → Prop} {s : Shared} {Z : Obj → Prop} {base : Heap} {env : Env} {outer l : List Env} {L e : Addr}
theorem looks_anyZ {fl : Value} {Q : Unit → Shared → Prop} (hZ : Steady Z) (hfr : A.frames = some (env :: outer)) (hf : env.frame = some L) (hkb : base.StaysIn s.heap) (hen : base.get? e = none) (hl : s.heap.FunFrames base (env :: outer)) (ht : TracedZ s.heap base e Z fl) (hne : (fl == rawInt L) = false)
    (hQ : ∀ h', HeldZ base (env :: outer) e Z L h' → s.heap.UpToSlots h' → Q () { s with heap := h' }) : wpAny M A (noteFrame (.ref e) env) Q E s := by
  obtain ⟨oe, vs, T, oT, ts, he, hz, hd, h1, hnT, hTe, hT, hdT, h3⟩ := ht
  unfold noteFrame
  simp only [hf]
  refine wpAny_bind (wpAny_field he hd h1 ?_)
  rw [if_pos (show (Value.ref T != Value.none) = true from by simp)]
  refine wpAny_bind (wpAny_field hT hdT h3 ?_)
  rw [if_neg (by rw [hne]; exact Bool.false_ne_true)]
  refine wpAny_bind (wpAny_setField hT hdT (Array.getElem?_eq_some_iff.mp h3).1 ?_)
  have other : ∀ b, b ≠ T → (s.heap.update T (Obj.mapFields (·.setIfInBounds 3 Value.none))).get? b = s.heap.get? b := fun b hb => Heap.get?_update_other _ _ (Ne.symm hb)
  have noRecord : ∀ b o, s.heap.get? b = some o → (∀ vs, o.data ≠ .fields vs) → b ≠ T := fun b o hb hnf q => by
    rw [q, hT] at hb; injection hb with hb; subst hb; exact hnf ts hdT
  refine wpAny_entryZ hZ hfr (hl.of_keeps fun b o hb hnf => ⟨o, (other b (noRecord b o hb hnf)).trans hb, rfl⟩) hf ((other e (Ne.symm hTe)).trans he)
    (fun b o hbo => (other b fun q => by rw [q, hnT] at hbo; cases hbo).trans (hkb b o hbo)) hen hd (Array.getElem?_eq_some_iff.mp h1).1 hz fun h' hN => ?_
  obtain ⟨x1, x2, x3, x4⟩ := hN
  exact hQ h' ⟨x1, hen, x2, x3⟩ fun b o hb hnf => x4 b o ((other b (noRecord b o hb hnf)).trans hb) hnf
end
end HandSPX
end PySem
namespace L2
open PySem PySem.Spec PyProof.Rows
abbrev Cx.blkX (X : Cx) (s : Shared) (H : Hp) (scope : Scope) (cenv : Env) (fp : List Addr) (xe : Value → Shared → Prop) : Cx := (X.blk s H scope cenv fp).tr [] xe
section
variable {X : Cx} {pins : List (Addr × Obj)} {σ : St} {H : Hp} {s : Shared} {W : WX}
theorem ns_slots {h h' : Heap} {L : Addr} {m : Str → Option Value} (hn : h.Ns L m) (up : h.UpToSlots h') : h'.Ns L m := Heap.Ns.upToSlots hn fun b o e d => up b o e d
theorem blk_takes (tk : Takes X W) (hst : X.stack = X.env :: X.outer) (hf : X.env.frame = some X.env.locals) {scope : Scope} {cl : List (Str × Addr)} {fp : List Addr} {xe : Value → Shared → Prop} (I3 : Inv X pins σ H s) (f3 : ∀ b ∈ fp, FpOk X pins H b ∧ b < s.heap.objs.size)
    {u : Value} {s' : Shared} (xx : XE (X.blkX s H scope (compEnvC scope cl s.heap.objs.size X.env) fp xe) (fun c d _ H' => W c d σ H') u s') :
    notedBy (model X.prog X.w) X.A (compEnvC scope cl s.heap.objs.size X.env) (CompFails (model X.prog X.w) X.A X.xe (compEnvC scope cl s.heap.objs.size X.env)) u s' := by
  obtain ⟨a, B, sI, pins', σ', H', cls, d, rfl, J, nb, up, sky, na, os, ag, w⟩ := xx
  have hfr : X.A.frames = some (X.env :: X.outer) := by rw [I3.ok.frames, hst]
  have nb : ∀ b o, sI.heap.get? b = some o → b ∉ frs X.stack → B.get? b = some o := nb
  have sky : Sky B X.stack a (Zc cls d) s.heap.objs.size s'.heap := sky
  -- the def's own state
  have I7 : Inv X pins σ H' sI := I3.call' (ch := fp) J.os J.base J.hok J.bare fun b hb => ⟨(f3 b hb).1.2.2.2.1, (f3 b hb).1.2.1, (f3 b hb).1.2.2.2.2.1, (f3 b hb).1.2.2.2.2.2⟩
  have nC : H' s.heap.objs.size = none := J.free
  obtain ⟨m, hn, _⟩ := J.loc
  have hn : sI.heap.Ns s.heap.objs.size m := hn
  have fC := I3.fpOk (Nat.le_refl _) nC
  have CL : s.heap.objs.size ≠ X.env.locals := fC.2.1
  have step : ∀ h1, HandSPX.HeldZ B X.stack a (Zc cls d) X.env.locals h1 → s'.heap.UpToSlots h1 → CompFails (model X.prog X.w) X.A X.xe (compEnvC scope cl s.heap.objs.size X.env) (.ref a) { s' with heap := h1 } := fun h1 hh up1 => by
    have hn1 : h1.Ns s.heap.objs.size m := ns_slots (ns_slots hn up) up1
    refine ⟨m, hn1, fun h2 m2 hn2 hs2 => ?_⟩
    have hn2 : h2.Ns s.heap.objs.size m2 := hn2
    have hs2 : Heap.SameBut s.heap.objs.size h1 h2 := hs2
    obtain ⟨b1, b0, ff1, oe, vs, T, oT, ts, he, hz, hd, e1, hnT, hTe, hT, hdT, e3⟩ := id hh
    obtain ⟨oC, esC, epC, hoC, hdC, _⟩ := hn1
    have aC : a ≠ s.heap.objs.size := fun z => by rw [z, hoC] at he; cases he; rw [hdC] at hd; cases hd
    have TC : T ≠ s.heap.objs.size := fun z => by rw [z, hoC] at hT; cases hT; rw [hdC] at hdT; cases hdT
    generalize hB2 : PySem.W.hideAll B [s.heap.objs.size] = B2
    have B2some : ∀ b o, B2.get? b = some o → B.get? b = some o ∧ b ≠ s.heap.objs.size := fun b o e => by
      rw [← hB2] at e
      refine ⟨PySem.W.of_hideAll _ e, fun z => ?_⟩
      rw [PySem.W.hideAll_none [s.heap.objs.size] (by rw [z]; simp)] at e; cases e
    have B2none : ∀ b, B.get? b = none → B2.get? b = none := fun b e => by
      cases q : B2.get? b with
      | none => rfl
      | some o => rw [(B2some b o q).1] at e; cases e
    have ff2 : h2.FunFrames B2 X.stack := funFrames_none (Heap.FunFrames.sameBut hs2 hn2 ff1) fun L hL => B2none L (ff1.mem hL).1
    have held2 : HandSPX.HeldZ B2 X.stack a (Zc cls d) X.env.locals h2 := by
      refine ⟨fun b o e => ?_, B2none a b0, ff2, oe, vs, T, oT, ts, (hs2.2 a aC).trans he, hz, hd, e1, B2none T hnT, hTe, (hs2.2 T TC).trans hT, hdT, e3⟩
      obtain ⟨q1, q2⟩ := B2some b o e
      exact (hs2.2 b q2).trans (b1 b o q1)
    show wpAny _ _ (PySem.passOn _ (.ref a) (compEnvC scope cl s.heap.objs.size X.env) : Sem Value) _ _ _
    unfold PySem.passOn
    refine wpAny_bind (wpAny_field ((hs2.2 a aC).trans he) hd e1 ?_)
    rw [if_neg (show ¬ ((Value.ref T == Value.none) = true) from by simp)]
    have fin : wpAny (model X.prog X.w) X.A (setFlight (.ref a) (compEnvC scope cl s.heap.objs.size X.env).frame) (fun _ s4 => wpAny (model X.prog X.w) X.A (throw (.ref a) : Sem Value) (fun _ _ => False) X.xe s4) X.xe { s' with heap := h2 } := by
      show wpAny _ _ (setFlight (.ref a) X.env.frame) _ _ _
      rw [hf]
      refine HandSPX.setFlight_onZ held2 fun h4 hh4 up4 => wpAny_throw (tk _ _ ?_)
      have sI2 : Inv X pins σ H' { sI with heap := PySem.W.hideAll sI.heap [s.heap.objs.size] } := by
        obtain ⟨f0, f1, f2, f3', f4, f5⟩ := fC
        exact I7.turned (t' := sI.toks) (fun b o hb e => PySem.W.hideAll_get _ e (by simpa using hb)) f0 f1 f3' f4 f5
      refine ⟨a, B2, { sI with heap := PySem.W.hideAll sI.heap [s.heap.objs.size] }, pins, σ, H', cls, d, rfl, sI2, fun b o e hb => ?_, fun b o e dd => ?_, .inr (.inr hh4), na, os, ag, w⟩
      · have bC : b ≠ s.heap.objs.size := fun z => by
          have e' : (PySem.W.hideAll sI.heap [s.heap.objs.size]).get? b = some o := e
          rw [PySem.W.hideAll_none [s.heap.objs.size] (by rw [z]; simp)] at e'; cases e'
        rw [← hB2]
        exact PySem.W.hideAll_get _ (nb b o (PySem.W.of_hideAll _ e) hb) (by simpa using bC)
      · have bC : b ≠ s.heap.objs.size := fun z => by
          have e' : (PySem.W.hideAll sI.heap [s.heap.objs.size]).get? b = some o := e
          rw [PySem.W.hideAll_none [s.heap.objs.size] (by rw [z]; simp)] at e'; cases e'
        obtain ⟨s1, q1⟩ := up b o (PySem.W.of_hideAll _ e) dd
        obtain ⟨s2, q2⟩ := up1 b _ q1 dd
        obtain ⟨s3, q3⟩ := up4 b _ ((hs2.2 b bC).trans q2) dd
        exact ⟨s3, q3⟩
    first
      | exact wpAny_bind (wpAny_pure (wpAny_bind fin))
      | exact wpAny_bind fin
  show wpAny _ _ (noteFrame (.ref a) (compEnvC scope cl s.heap.objs.size X.env)) _ _ _
  rw [noteFrame_env (.ref a) (show (compEnvC scope cl s.heap.objs.size X.env).frame = X.env.frame from rfl)]
  rw [hst] at sky step
  rcases sky with ⟨hB, hn', hl, oe, vs, he, hz, hd, h1⟩ | fl | hh
  · exact HandSPX.look_newZ Zc.steady hfr hl hf he hB hn' hd h1 hz step
  · exact HandSPX.looks_onZ Zc.steady hfr hf fl step
  · exact HandSPX.looks_anyZ Zc.steady hfr hf hh.1 hh.2.1 hh.2.2.1 hh.2.2.2 (by simp only [rawInt, Bool.eq_false_iff]; intro z; simp at z; exact CL (by exact_mod_cast z)) step

theorem lc_coreX {s : Shared} {Q : VK} {elt tg iter : Expr} {ifs : List Expr} {scope : Scope} {own : List (Str × Nat)} {pos pos' : Pos} {wi : TI} {g : TG} {tt : TT} {te : TE} {use : Option (Value → Sem Unit)} {Qf : Value → Shared → Prop}
    (hc : X.calm = true) (hN : X.N.Nodup) (I : Inv X pins σ H s) (tk : Takes X W) (hst : X.stack = X.env :: X.outer) (hf : X.env.frame = some X.env.locals) (hi : PI X tg iter wi) (ok : BlkOk X.N X.env.scope scope own)
    (hg : ∀ (s : Shared) (H : Hp) (C : Addr) (cl : List (Str × Addr)) (fp : List Addr) (xe : Value → Shared → Prop), PG (X.blkX s H scope (compEnvC scope cl C X.env) fp xe) tg g)
    (ht : ∀ (s : Shared) (H : Hp) (C : Addr) (cl : List (Str × Addr)) (fp : List Addr) (xe : Value → Shared → Prop), PTs (X.blkX s H scope (compEnvC scope cl C X.env) fp xe) ifs tt)
    (he : ∀ (s : Shared) (H : Hp) (C : Addr) (cl : List (Str × Addr)) (fp : List Addr) (xe : Value → Shared → Prop), Takes (X.blkX s H scope (compEnvC scope cl C X.env) fp xe) (fun c d _ H' => W c d σ H') → PE (X.blkX s H scope (compEnvC scope cl C X.env) fp xe) elt te) (hs : ∀ x, foldedSetIterable iter X.env x = pure x)
    (h : tLc wi g tt te (own.map (·.2)) σ H Q)
    (hRR : ∀ D C s' m H' cl, Inv X pins σ H' s' → Q (.ref D) H' → s'.heap.Ns C m → FpOk X pins H' C → compEnds (model X.prog X.w) X.A X.xe use Qf (.ref D) (compEnvC scope cl C X.env) (.ok .next) s') :
    wpAny (model X.prog X.w) X.A (comprehension (.ListComp elt [⟨tg, iter, ifs, 0⟩] scope pos) scope X.env pos' (newList []) false (eval iter X.env) use) Qf X.xe s := by
  have hfree : ∀ y ∈ scope.names, y.2 = .free → ∃ c, X.env.cells.lookup y.1 = some c := fun y hy e => by
    rcases ok.free y hy e with k | k
    · exact I.ok.has _ (.inl k)
    · exact I.ok.has _ (.inr k)
  refine comprehension_at (use := use) rfl hs (closure_ok hfree) ok.kind (fun y hy e => by rw [ok.uniq y hy, e])
    (thn (hi.run pins s σ H _ I h) fun xv s1 hx => thn hx fun itv s2 h2 => ?_)
  obtain ⟨it, fp, tn, J, H2, e, I2, T, st2, f2, q⟩ := h2
  subst e
  refine wpAny_newObj_type (newEnv_comp ?_) (by show 0 ≤ sizeLine; decide)
  generalize hD : s2.heap.objs.size = D
  have hDn : H2 D = none := I2.hok.fresh (Nat.le_of_eq hD)
  obtain ⟨W1, ⟨m0, w0⟩, turn⟩ := q D hDn
  generalize hs3 : ({ s2 with heap := s2.heap.push { cls := .type "list", data := .seq ([] : List Value).toArray } } : Shared) = s3
  have I3 : Inv X pins σ (upd H2 D (.lst [])) s3 := by
    rw [← hs3]
    refine I2.laid (t' := s2.toks) (fun b o e => Heap.get?_push_of_some _ e) (Nat.le_of_eq hD) ⟨Nat.zero_le _, [], 0, .nil, ?_⟩
    rw [← hD]
    exact Heap.get?_push_size _ rfl
  have h3 : s3.heap = s2.heap.push { cls := .type "list", data := .seq ([] : List Value).toArray } := by rw [← hs3]
  have sz : ∀ b ∈ fp, b < s2.heap.objs.size := fun b hb => by
    obtain ⟨o, e, _⟩ := T.obj _ _ st2 b hb
    exact Heap.lt_size e
  have f3 : ∀ b ∈ fp, FpOk X pins (upd H2 D (.lst [])) b ∧ b < s3.heap.objs.size := fun b hb => by
    have hlt := sz b hb
    refine ⟨⟨?_, (f2 b hb).2⟩, by rw [h3, Heap.size_push]; exact Nat.lt_succ_of_lt hlt⟩
    rw [upd_ne (by rw [← hD]; exact Nat.ne_of_lt hlt)]
    exact (f2 b hb).1
  have st3 : tn 0 s3.heap := T.keep _ _ _ st2 fun b _ o e => by rw [h3]; exact Heap.get?_push_of_some _ e
  have I4 := block_start I3 ok hN f3
  generalize hxe : (notedBy (model X.prog X.w) X.A (compEnvC scope (cellsFrom (s3.heap.objs.size + 1) scope.names (cloFrom X.env.cells scope.names [])) s3.heap.objs.size X.env) (CompFails (model X.prog X.w) X.A X.xe (compEnvC scope (cellsFrom (s3.heap.objs.size + 1) scope.names (cloFrom X.env.cells scope.names [])) s3.heap.objs.size X.env))) = xe
  have tk4 : Takes (X.blkX s3 (upd H2 D (.lst [])) scope (compEnvC scope (cellsFrom (s3.heap.objs.size + 1) scope.names (cloFrom X.env.cells scope.names [])) s3.heap.objs.size X.env) fp xe) (fun c d _ H' => W c d σ H') := fun u s' xx => by
    show xe u s'
    rw [← hxe]
    exact blk_takes tk hst hf I3 f3 xx
  have pg := hg s3 (upd H2 D (.lst [])) s3.heap.objs.size (cellsFrom (s3.heap.objs.size + 1) scope.names (cloFrom X.env.cells scope.names [])) fp xe
  have pt := ht s3 (upd H2 D (.lst [])) s3.heap.objs.size (cellsFrom (s3.heap.objs.size + 1) scope.names (cloFrom X.env.cells scope.names [])) fp xe
  have pe := he s3 (upd H2 D (.lst [])) s3.heap.objs.size (cellsFrom (s3.heap.objs.size + 1) scope.names (cloFrom X.env.cells scope.names [])) fp xe tk4
  have I4 : Inv (X.blkX s3 (upd H2 D (.lst [])) scope (compEnvC scope (cellsFrom (s3.heap.objs.size + 1) scope.names (cloFrom X.env.cells scope.names [])) s3.heap.objs.size X.env) fp xe) [] (wipe σ (own.map (·.2))) (upd H2 D (.lst [])) { s3 with heap := pushCells (s3.heap.push { cls := .type "dict", data := .dict #[] }) scope.names } := I4.toTry xe
  show codeAny _ _ (.compStart (.ListComp elt [⟨tg, iter, ifs, 0⟩] scope pos) 0 (.ref it) (.ref D) (compEnvC scope (cellsFrom (s3.heap.objs.size + 1) scope.names (cloFrom X.env.cells scope.names [])) s3.heap.objs.size X.env)) (compEnds (model X.prog X.w) X.A X.xe use Qf (.ref D) (compEnvC scope (cellsFrom (s3.heap.objs.size + 1) scope.names (cloFrom X.env.cells scope.names [])) s3.heap.objs.size X.env)) { s3 with heap := pushCells (s3.heap.push { cls := .type "dict", data := .dict #[] }) scope.names }
  have nfp : ∀ b ∈ fp, (upd H2 D (.lst [])) b = none := fun b hb => (f3 b hb).1.1
  have hRR := fun s' m H' (I : Inv X pins σ H' s') (q : Q (.ref D) H') (hn : s'.heap.Ns s3.heap.objs.size m) (f : FpOk X pins H' s3.heap.objs.size) => hRR D s3.heap.objs.size s' m H' (cellsFrom (s3.heap.objs.size + 1) scope.names (cloFrom X.env.cells scope.names [])) I q hn f
  generalize hce : compEnvC scope (cellsFrom (s3.heap.objs.size + 1) scope.names (cloFrom X.env.cells scope.names [])) s3.heap.objs.size X.env = ce at I4 pg pt pe hRR hxe ⊢
  have cL : ce.locals = s3.heap.objs.size := by subst hce; rfl
  generalize hH3 : upd H2 D (.lst []) = H3 at I3 I4 pg pt pe w0 nfp f3
  generalize hs4 : ({ s3 with heap := pushCells (s3.heap.push { cls := .type "dict", data := .dict #[] }) scope.names } : Shared) = s4 at I4 ⊢
  have st4 : tn 0 s4.heap := T.keep _ _ _ st3 fun b _ o e => by rw [← hs4]; exact pushCells_keeps _ _ _ _ (Heap.get?_push_of_some _ e)
  have stat : ∀ {σ' : St} {H' : Hp} {s' : Shared}, Inv (X.blkX s3 H3 scope ce fp xe) [] σ' H' s' → (∀ b ∈ fp, H' b = none) → ∀ b ∈ fp, FpOk (X.blkX s3 H3 scope ce fp xe) [] H' b := fun {σ' H' s'} I' hn b hb =>
    ⟨hn b hb, (I'.ok.exf b hb).1, I'.ok.exfs b hb, .inl hb, fun x c e => (I'.ok.exf b hb).2 x c e, fun p hp => absurd (show p ∈ ([] : List (Addr × Obj)) ++ [] from hp) (by simp)⟩
  have loop : codeAny (model X.prog X.w) X.A (.compLoop (.ListComp elt [⟨tg, iter, ifs, 0⟩] scope pos) 0 (.ref it) (.ref D) ce) (compEnds (model X.prog X.w) X.A X.xe use Qf (.ref D) ce) s4 := by
    have hE : (fun e s' => compEnds (model X.prog X.w) X.A X.xe use Qf (.ref D) ce (.error e) s') = CompFails (model X.prog X.w) X.A X.xe ce := by
      funext e s'
      cases use <;> rfl
    refine compLoop_any (fun n s' => ∃ i H', Inv (X.blkX s3 H3 scope ce fp xe) [] (wipe σ (own.map (·.2))) H' s' ∧ tn i s'.heap ∧ (∀ b ∈ fp, H' b = none) ∧ W1 i n H') ?_ m0 ⟨0, H3, I4, st4, nfp, w0⟩
    rintro n s5 ⟨i, H5, I5, st5, n5, w5⟩
    rw [hE, hxe]
    rcases turn i n H5 w5 with ⟨stop, qq⟩ | ⟨go, Nx, hNx, step⟩
    · have td := T.done (X.blkX s3 H3 scope ce fp xe) rfl rfl rfl hc i [] s5 _ H5 (fun _ _ => False) I5 (stat I5 n5) st5 stop
      refine thnF td fun r s6 ⟨hr, I6⟩ => ?_
      subst hr
      have I7 : Inv X pins σ H5 s6 := I3.call' (ch := fp) I6.os I6.base I6.hok I6.bare fun b hb => ⟨(f3 b hb).1.2.2.2.1, (f3 b hb).1.2.1, (f3 b hb).1.2.2.2.2.1, (f3 b hb).1.2.2.2.2.2⟩
      have nC : H5 s3.heap.objs.size = none := by
        have z : H5 ce.locals = none := I6.free
        rw [cL] at z
        exact z
      obtain ⟨m, hn, _⟩ := I6.loc
      have hn : s6.heap.Ns ce.locals m := hn
      rw [cL] at hn
      exact hRR s6 m H5 I7 qq hn (I3.fpOk (Nat.le_refl _) nC)
    · have ti := T.item (X.blkX s3 H3 scope ce fp xe) rfl rfl rfl hc i [] s5 _ H5 (fun _ _ => False) I5 (stat I5 n5) st5 go
      refine thnF ti fun r s6 ⟨u, hr, h6⟩ => ?_
      subst hr
      refine thnF h6 fun _ s7 ⟨x, H7, I7, r7, y7, st7, n7⟩ => ?_
      have I7' := I7.pinned (stat I7 n7) (T.obj _ _ st7)
      refine thn (pg.run _ s7 _ H7 x u _ I7' r7 (step x H7 y7)) fun _ s8 ⟨σ8, H8, I8, hw8, q8⟩ => ?_
      refine thn (pt.run _ s8 σ8 H8 _ I8 q8) fun b s9 ⟨H9, I9, q9⟩ => ?_
      have fin : ∀ {s' : Shared} {H' : Hp}, Inv (X.blkX s3 H3 scope ce fp xe) ([] ++ pinsAt fp s7.heap) σ8 H' s' → Nx H' → ∃ m, m < n ∧ ∃ i H', Inv (X.blkX s3 H3 scope ce fp xe) [] (wipe σ (own.map (·.2))) H' s' ∧ tn i s'.heap ∧ (∀ b ∈ fp, H' b = none) ∧ W1 i m H' := fun {s' H'} I' nx => by
        obtain ⟨m', hm, w'⟩ := hNx H' nx
        have pin' : ∀ b ∈ fp, ∀ o, s7.heap.get? b = some o → s'.heap.get? b = some o ∧ H' b = none := fun b hb o e =>
          let z := I'.pin (b, o) (List.mem_append_right _ (List.mem_append_right _ (mem_pinsAt hb e)))
          ⟨z.1, z.2.1⟩
        have hl : (wipe σ (own.map (·.2))).length = σ8.length := by rw [← hw8, wipe_length]
        refine ⟨m', hm, i + 1, H', (I'.unpinned (pins := [])).weak hl (fun j v e => ?_), T.keep _ _ _ st7 fun b hb o e => (pin' b hb o e).1, fun b hb => ?_, w'⟩
        · rw [← hw8] at e
          exact (wipe_some e).1
        · obtain ⟨o, e, _⟩ := T.obj _ _ st7 b hb
          exact (pin' b hb o e).2
      cases b with
      | false =>
        simp only [Bool.false_eq_true, if_false] at q9 ⊢
        exact fin I9 q9
      | true =>
        simp only [if_true] at q9 ⊢
        refine thn (pe.run _ s9 σ8 H9 _ I9 q9) fun z s10 ⟨yv, H10, I10, r10, acc, hD10, hz10, nx⟩ => ?_
        exact app_ok (X := X.blkX s3 H3 scope ce fp xe) I10 hD10 hz10 r10 fun s11 I11 => fin I11 nx
  exact codeAny_compStart_list loop (T.self X.A 0 _ _ _ st4 loop)
theorem ps_setLcX {i : Nat} {y : Str} {py : Pos} {elt tg iter : Expr} {ifs : List Expr} {scope : Scope} {own : List (Str × Nat)} {pos spos : Pos} {wi : TI} {g : TG} {tt : TT} {te : St → TE} (hc : X.calm = true) (hN : X.N.Nodup) (tk : Takes X W) (hst : X.stack = X.env :: X.outer) (hf : X.env.frame = some X.env.locals) (hy : X.N[i]? = some y) (hyl : X.env.scope.names.lookup y = some .local)
    (hsw : swapsWith (.ListComp elt [⟨tg, iter, ifs, 0⟩] scope pos) (some (.Name y py)) spos.line X.env = pure true) (hi : PI X tg iter wi) (ok : BlkOk X.N X.env.scope scope own)
    (hg : ∀ (s : Shared) (H : Hp) (C : Addr) (cl : List (Str × Addr)) (fp : List Addr) (xe : Value → Shared → Prop), PG (X.blkX s H scope (compEnvC scope cl C X.env) fp xe) tg g)
    (ht : ∀ (s : Shared) (H : Hp) (C : Addr) (cl : List (Str × Addr)) (fp : List Addr) (xe : Value → Shared → Prop), PTs (X.blkX s H scope (compEnvC scope cl C X.env) fp xe) ifs tt)
    (he : ∀ (σ : St) (s : Shared) (H : Hp) (C : Addr) (cl : List (Str × Addr)) (fp : List Addr) (xe : Value → Shared → Prop), Takes (X.blkX s H scope (compEnvC scope cl C X.env) fp xe) (fun c d _ H' => W c d σ H') → PE (X.blkX s H scope (compEnvC scope cl C X.env) fp xe) elt (te σ)) (hs : ∀ x, foldedSetIterable iter X.env x = pure x := by intro _; rfl) :
    PS X (.Assign [.Name y py] (.ListComp elt [⟨tg, iter, ifs, 0⟩] scope pos) spos) (tAsg (fun σ H Q => tLc wi g tt (te σ) (own.map (·.2)) σ H Q) (gName i)) := by
  refine ⟨fun pins s σ H D I h => ?_⟩
  rw [exec_Assign_Name_used _ _ _ _ hsw]
  refine wpAny_bind (wpAny_standAt (wpAny_bind ?_))
  show wpAny _ X.A (do let _ ← comprehension (.ListComp elt [⟨tg, iter, ifs, 0⟩] scope pos) scope X.env (firstIterPos [⟨tg, iter, ifs, 0⟩] pos) (newList []) false (eval iter X.env) (some (assign (.Name y py) X.env))) _ _ s
  have h : tLc wi g tt (te σ) (own.map (·.2)) σ H (fun x H1 => gName i x σ H1 D.nx) := h
  refine wpAny_bind (thn (lc_coreX (Qf := fun _ s' => SP X pins D .next s') hc hN I tk hst hf hi ok hg ht (he σ) hs h fun L C s' m H' cl I' q hn f => ?_) fun _ s' hq => wpAny_pure (wpAny_pure hq))
  show wpAny _ _ (assign (.Name y py) X.env (.ref L)) _ _ _
  refine wpAny_assign_Name (store_ok2 (v := V.ref L) I' hN hy (.inl hyl) rfl (fun s2 I2 ⟨a, sb, ha⟩ => ?_) (.inr hyl))
  obtain ⟨f0, f1, f2, f3, f4, f5⟩ := f
  have haC : C ≠ a := by
    rcases ha with z | z
    · rw [z]; exact f1
    · exact fun e => f4 y a z e.symm
  refine ⟨m, hn.sameBut sb haC, fun h3 sb3 => ?_⟩
  exact ⟨_, H', I2.turned (t' := s2.toks) (fun b o hb e => (sb3.2 b hb).trans e) f0 f1 f3 f4 f5, q⟩
end
end L2

namespace Pm
open PySem PySem.Spec PyProof.Rows L2
def fMapX (f : D → M D) : List D → M (List D)
  | [] => M.pure []
  | x :: xs => (f x).bind fun a => (fMapX f xs).bind fun r => M.pure (a :: r)
def fLCX (items : M (List D)) (f : D → M D) : M D := items.bind fun l => (fMapX f l).bind fun r => M.pure (.lst r)
abbrev WB (Wx : WX) (σ : L2.St) : WX := fun c d _ H => Wx c d σ H
section
variable {Wx : WX} {K : PySem.W.Frag} {mg : Str → Option Value} {sl : Ls} {σ : L2.St} {vs ts : List Nat} {p : Gk} {f : Dn}
theorem put_goW {Wb : WX} {B' : Addr → Prop} {D0 : Addr} {ws0 : Wa} {O0 : Addr → Prop} {H0 : Hp} {ws ws2 : Wa} {w w2 w3 : W} {as : List D} {H H2 : Hp} {sl2 : Ls} {σ2 : L2.St} {d : D} {Nx : Hp → Prop} (hBD : B' D0) (hn0 : H0 D0 = none ∨ O0 D0) (hno : noOw vs sl = true) (cc : CAt K B' D0 sl σ ws0 O0 H0 ws w as H) (l2 : Le ws (Own sl σ) H ws2 (Own sl2 σ2) H2) (c2 : CAt K B' D0 sl2 σ2 ws0 O0 H0 ws2 w2 as H2) (hw : L2.wipe σ2 vs = L2.wipe σ vs) (hs : ∀ j, j ∉ vs → sl2[j]? = sl[j]?) (hf : f sl2 w2 = .ok d w3) (hl : as.length < sizeLine)
    (hnx : ∀ ws' H', CAt K B' D0 sl σ ws0 O0 H0 ws' w3 (as ++ [d]) H' → Nx H') : tE K mg Wb f σ2 H2 fun y H4 => ∃ acc, H4 D0 = some (.lst acc) ∧ acc.length < sizeLine ∧ Nx (upd H4 D0 (.lst (acc ++ [y]))) := by
  refine ⟨ws2, B', sl2, w2, c2.env, runAt_ok hf fun ws4 H4 l4 e4 v hv => ?_⟩
  obtain ⟨cb, lb⟩ := CAt.back hno cc (l2.trans l4) (c2.after hBD l4 e4) hw hs
  obtain ⟨acc, h1, h2, h3⟩ := cb.push hBD hn0 (hv.le lb) hl
  exact ⟨acc, h1, h2, hnx _ _ h3⟩
theorem lcX_go (hts : ∀ j ∈ ts, j ∈ vs) (σ : L2.St) (H : Hp) (Q : VK) {it : An} {ws : Wa} {B0 : Addr → Prop} {sl : Ls} {w : W} (e : Env K ws B0 sl w σ H)
    (h : lcPost K mg Wx ws B0 sl σ H (nNo vs sl (fLCX (it sl) fun x => p D x (fun sl1 => f sl1) (setNo vs sl)) w) Q) : tLc (tIm K mg Wx it) (tGm K ts p) tYes (tE K mg (WB Wx σ) f) vs σ H Q := by
  unfold nNo at h
  cases hno : noOw vs sl with
  | false => rw [hno] at h; exact h.elim
  | true =>
    rw [hno] at h
    refine ⟨ws, B0, sl, w, e, ?_⟩
    unfold fLCX M.bind at h
    simp only at h
    cases qi : it sl w with
    | bad => rw [qi] at h; exact h.elim
    | ex x s' => rw [qi] at h; exact h
    | ok items w1 =>
      rw [qi] at h
      simp only at h
      intro ws1 H1 l1 e1 J hz hJ D0 hD
      have gD := Grow.new (o := .lst []) hD
      have hB' : ∀ a, (B0 a ∨ a = D0) → B0 a ∨ (upd H1 D0 (.lst []) a ≠ none ∧ H1 a = none) := fun a z => z.imp id fun q => by subst q; exact ⟨sm upd_same, hD⟩
      generalize hF : (fun x => p D x (fun sl1 => f sl1) (setNo vs sl)) = F at h
      have hF' : ∀ x, F x = p D x (fun sl1 => f sl1) (setNo vs sl) := fun x => by rw [← hF]
      refine ⟨fun i m Hh => m = items.length - i ∧ ∃ wsi wi as, (as.length ≤ i ∧ i ≤ items.length) ∧ CAt K (fun a => B0 a ∨ a = D0) D0 sl σ ws1 (Own sl σ) H1 wsi wi as Hh ∧ lcPost K mg Wx ws B0 sl σ H (((fMapX F (items.drop i)).bind fun r => M.pure (D.lst (as ++ r))) wi) Q,
        ⟨_, rfl, ws1, w1, [], ⟨Nat.zero_le _, Nat.zero_le _⟩, ⟨gD.le _ _, e1.more hB' (fun a z => z.imp id fun q => by rw [q, upd_same]; trivial) gD, fun z => e1.wd D0 z hD, [], upd_same, .nil⟩, h⟩, ?_⟩
      rintro i m Hh ⟨rfl, wsi, wi, as, hal, c, hr⟩
      have hj := hJ wsi _ Hh c.le.wle c.le.kp (bad_more (fun a z => z.imp id fun q => by rw [q]; exact hD) c.le) c.env.bad i
      by_cases hi : i < items.length
      · have hd : items[i]? = some items[i] := by simp [hi]
        rw [List.drop_eq_getElem_cons hi] at hr
        obtain ⟨hgo, hy⟩ := hj.1 _ hd
        generalize items[i] = x at hr hy
        have hr : lcPost K mg Wx ws B0 sl σ H ((((F x).bind fun a => (fMapX F (items.drop (i + 1))).bind fun r => M.pure (a :: r)).bind fun r => M.pure (D.lst (as ++ r))) wi) Q := hr
        obtain ⟨Nx, hNx⟩ : ∃ Nx : Hp → Prop, ∀ H', Nx H' ↔ (∃ m', m' < items.length - i ∧ m' = items.length - (i + 1) ∧ ∃ wsi wi as, (as.length ≤ i + 1 ∧ i + 1 ≤ items.length) ∧ CAt K (fun a => B0 a ∨ a = D0) D0 sl σ ws1 (Own sl σ) H1 wsi wi as H' ∧ lcPost K mg Wx ws B0 sl σ H (((fMapX F (items.drop (i + 1))).bind fun r => M.pure (D.lst (as ++ r))) wi) Q) := ⟨fun H' => ∃ m', m' < items.length - i ∧ m' = items.length - (i + 1) ∧ ∃ wsi wi as, (as.length ≤ i + 1 ∧ i + 1 ≤ items.length) ∧ CAt K (fun a => B0 a ∨ a = D0) D0 sl σ ws1 (Own sl σ) H1 wsi wi as H' ∧ lcPost K mg Wx ws B0 sl σ H (((fMapX F (items.drop (i + 1))).bind fun r => M.pure (D.lst (as ++ r))) wi) Q, fun _ => Iff.rfl⟩
        refine .inr ⟨hgo, Nx, fun H' z => (hNx H').mp z, fun v H' hyl => ?_⟩
        obtain ⟨gr, hx⟩ := hy v H' hyl
        have cc := c.grow gr
        have hBD : (fun a => B0 a ∨ a = D0) D0 := .inr rfl
        cases qF : F x wi with
        | bad =>
          unfold M.bind at hr
          simp only [qF] at hr
          exact hr.elim
        | ex cn w2 =>
          unfold M.bind at hr
          simp only [qF] at hr
          rw [hF'] at qF
          refine bind_go hts hBD cc hx (by rw [qF]; exact fun z => by cases z) fun ws2 sl2 w3 σ2 H2 c2 l2 hw hs z => ⟨hw, ?_⟩
          rw [qF] at z
          show tE K mg (WB Wx σ) f σ2 H2 _
          refine ⟨ws2, _, sl2, w3, c2.env, ?_⟩
          rw [z]
          intro ws' H3 C hC l3 e3
          obtain ⟨cb, lb⟩ := CAt.back hno cc (l2.trans l3) (c2.after hBD l3 e3) hw hs
          exact hr ws' H3 C hC (l1.trans cb.le) (cb.env.fewer fun a z => .inl z)
        | ok d w2 =>
          have hr : lcPost K mg Wx ws B0 sl σ H (((fMapX F (items.drop (i + 1))).bind fun r => M.pure (D.lst ((as ++ [d]) ++ r))) w2) Q := by
            rw [Pm.bind_assoc] at hr
            unfold M.bind at hr
            simp only [qF] at hr
            rw [show (fun r => M.pure (D.lst ((as ++ [d]) ++ r))) = fun r : List D => M.pure (D.lst (as ++ d :: r)) from funext fun r => by rw [List.append_assoc]; rfl]
            unfold M.bind
            cases q : fMapX F (items.drop (i + 1)) w2 <;> (rw [q] at hr; exact hr)
          rw [hF'] at qF
          refine bind_go hts hBD cc hx (by rw [qF]; exact fun z => by cases z) fun ws2 sl2 w3 σ2 H2 c2 l2 hw hs z => ⟨hw, ?_⟩
          rw [qF] at z
          show tE K mg (WB Wx σ) f σ2 H2 _
          exact put_goW hBD (.inl hD) hno cc l2 c2 hw hs z (by omega) fun ws' H' c' => (hNx H').mpr ⟨_, by omega, rfl, ws', w2, as ++ [d], ⟨by simp; omega, by omega⟩, c', hr⟩
      · rw [List.drop_of_length_le (by omega)] at hr
        have hr : lcPost K mg Wx ws B0 sl σ H (.ok (D.lst (as ++ [])) wi) Q := hr
        rw [List.append_nil] at hr
        refine .inl ⟨hj.2 (by omega), ?_⟩
        obtain ⟨vl, h1, h2⟩ := c.acc
        have hil : as.length ≤ sizeLine := by omega
        refine hr wsi Hh D0 vl as rfl hil (l1.ex D0 hD) h1 (fun z => ?_) (l1.trans c.le) c.env h2
        rcases z with z | z | ⟨j, dj, z1, z2⟩
        · exact c.nD z
        · exact e1.dom D0 z hD
        · obtain ⟨a, y1, y2, y3, y4⟩ := c.env.ow j dj z1
          rw [z2] at y1
          cases y1
          exact y4 (.inr rfl)
end
section
variable {X : Cx} {Wx : WX} {elt tg iter : Expr} {scope : Scope} {own : List (Str × Nat)} {pos : Pos} {it : An} {p : Gk} {f : Dn} {ts : List Nat}
theorem ms_setLcX {i : Nat} {y : Str} {py spos : Pos} (hc : X.calm = true) (hN : X.N.Nodup) (tk : Takes X Wx) (hy : X.N[i]? = some y) (hyl : X.env.scope.names.lookup y = some .local)
    (hsw : swapsWith (.ListComp elt [⟨tg, iter, [], 0⟩] scope pos) (some (.Name y py)) spos.line X.env = pure true) (hi : PIm X Wx tg iter it) (ok : BlkOk X.N X.env.scope scope own) (hts : ∀ j ∈ ts, j ∈ own.map (·.2))
    (hg : ∀ (s : Shared) (H : Hp) (C : Addr) (cl : List (Str × Addr)) (fp : List Addr) (xe : Value → Shared → Prop), PGm (X.blkX s H scope (compEnvC scope cl C X.env) fp xe) tg ts p)
    (he : ∀ (Wb : WX) (s : Shared) (H : Hp) (C : Addr) (cl : List (Str × Addr)) (fp : List Addr) (xe : Value → Shared → Prop), Takes (X.blkX s H scope (compEnvC scope cl C X.env) fp xe) Wb → PEm (X.blkX s H scope (compEnvC scope cl C X.env) fp xe) Wb elt f) (hs : ∀ x, foldedSetIterable iter X.env x = pure x := by intro _; rfl)
    (hst : X.stack = X.env :: X.outer := by rfl) (hf : X.env.frame = some X.env.locals := by rfl) :
    PSm X Wx (.Assign [.Name y py] (.ListComp elt [⟨tg, iter, [], 0⟩] scope pos) spos) (fun nx _ _ sl => (nNo (own.map (·.2)) sl (fLCX (it sl) fun x => p D x (fun sl1 => f sl1) (setNo (own.map (·.2)) sl))).bind fun d => nx (sl.set i (.va d))) := by
  refine (ps_setLcX (g := tGm X.K ts p) (te := fun σ => tE X.K X.mg (WB Wx σ) f) hc hN tk hst hf hy hyl hsw hi ok hg (fun _ _ _ _ _ _ => pts_nil) (fun σ s H C cl fp xe tk => he _ s H C cl fp xe tk) hs).mimp fun D0 σ H h => ?_
  obtain ⟨ws, B0, sl, w, e, h⟩ := set_go D0 σ H h
  exact lcX_go hts σ H _ e (post_E h)
end
end Pm

namespace L2
open PySem PySem.Spec PyProof.Rows
section
variable {X : Cx} {pins : List (Addr × Obj)} {σ : St} {H : Hp} {sI s4 : Shared}
theorem Inv.excIn {a : Addr} {oe : Obj} {φ : Heap → Prop} (YI : Inv X pins σ H sI) (Y : Inv X pins σ H s4) (na : H a = none) (ni : sI.heap.get? a = none) (nL : a ≠ X.env.locals) (he : s4.heap.get? a = some oe) (hφ : φ s4.heap)
    (hst : ∀ g1 g2 : Heap, φ g1 → (∀ o, g1.get? a = some o → g2.get? a = some o) → φ g2) : Inv X pins σ (upd H a (.ext φ)) s4 := by
  have nz : ∀ {b : Addr} {u : Obj}, sI.heap.get? b = some u → b ≠ a := fun {b u} z q => by rw [q, ni] at z; cases z
  have up : ∀ {b : Addr} {x : HO}, H b = some x → upd H a (.ext φ) b = some x := fun {b x} z => by rw [upd_ne (ne_of_none z na)]; exact z
  refine ⟨Y.ok, Y.os, Y.bare, ⟨Y.base.keep, Y.base.slot, fun b o z1 z2 z3 => ?_, Y.base.there, fun b xs z => up (Y.base.tups b xs z), fun b o u z => up (Y.base.frzs b o u z), fun b ps z => ?_⟩, Y.loc, Y.cell, ?_, fun x c z => ?_, fun p hp => ?_, fun b u z => ?_, Y.len⟩
  · obtain ⟨o', z4⟩ := YI.base.there b o z1 z3
    rw [upd_ne (nz z4)]
    exact Y.base.free b o z1 z2 z3
  · obtain ⟨more, z2⟩ := Y.base.tbls b ps z
    exact ⟨more, up z2⟩
  · rw [upd_ne (Ne.symm nL)]; exact Y.free
  · obtain ⟨v, o1, z2, _⟩ := YI.cell x c z
    rw [upd_ne (nz z2)]; exact Y.freeC x c z
  · obtain ⟨p1, p2, p3, p4, p5⟩ := Y.pin p hp
    obtain ⟨q1, _⟩ := YI.pin p hp
    exact ⟨p1, by rw [upd_ne (nz q1)]; exact p2, p3, p4, p5⟩
  · by_cases hb : b = a
    · subst hb
      rw [upd_same] at z
      cases z
      exact ⟨hφ, ⟨oe, he⟩, hst⟩
    · rw [upd_ne hb] at z
      exact (Y.hok b u z).stay (fun _ _ _ r => r) (fun c r => up r) fun c xs r => up r
end
section
variable {X : Cx} {x n : Str} {c : Value} {i : Nat} {body suite : List Stmt} {b₀ : Stmt} {np pos pos' : Pos} {tb : WX → TS} {ts : Addr → TS} {Wout : WX}
end


structure FnX (P : Program) (w : World) (K : PySem.W.Frag) (mg : Str → Option Value) (base : Heap) (CX : CXT) (k : Nat) (f : Addr) (fd : FuncData) (ps : List Str) (sp : Sp) : Prop where
  lenX : ∀ vs H Q E, sp vs H Q E → vs.length = ps.length
  runX : ∀ (A : Around) (outer : List Env) (s : Shared) (H : Hp) (args : Args) (us : List Value) (vs : List V) (Q : VK) (E : XK), L2H.RoomH k A → Env0 P w K mg base A outer s H → BindsTo s fd args (ps.zip us) → Vals vs us → sp vs H Q E → codeAny (model P w) A (.call (.ref f) args) (CR CX outer P w H s Q E) s
section
variable {X : Cx} {CX : CXT} {k : Nat} {f C : Addr} {fd : FuncData} {ps : List Str} {sp : Sp} {E : St → XK} {x m : Str} {q pos apos : Pos} {e o : Expr} {es : List Expr} {ta : TE} {t : TA}
end
end L2
namespace Pm
open PySem PySem.Spec PyProof.Rows L2

section
variable {X : Cx} {Wx : WX} {a : Expr} {pos p p' : Pos}
end

section
variable {P : Program} {w : World} {K : PySem.W.Frag} {mg : Str → Option Value} {base : Heap}
end
section
variable {X : Cx} {Wx : WX} {e : Expr} {es : List Expr} {pos p : Pos} {x : Str} {g : An}
end

section
variable {X : Cx} {Wx : WX} {pos pos' np : Pos} {x n : Str} {i : Nat} {m mh : Dn}
end
end Pm

namespace Pm
open PySem PySem.Spec PyProof.Rows L2
def putS {α : Type} (fs : List (Str × α)) (k : Str) (d : α) : List (Str × α) := if (fs.any fun p => decide (p.1 = k)) = true then fs.map (fun p => if p.1 = k then (p.1, d) else p) else fs ++ [(k, d)]
def mergeS {α : Type} (fs more : List (Str × α)) : List (Str × α) := more.foldl (fun acc p => putS acc p.1 p.2) fs
section
variable {K : PySem.W.Frag} {mg : Str → Option Value} {Wx : WX} {ws ws' : Wa} {B0 B : Addr → Prop} {sl : Ls} {w w' : W} {σ : L2.St} {H H' : Hp} {v : V} {d : D} {ob : List (Addr × Bool)}
theorem FPs.any {f : Str} : ∀ {fv : List (Str × V)} {fs : List (Str × D)}, Paired (FP K ob H) fv fs → (fv.any fun p => decide (p.1 = f)) = fs.any fun p => decide (p.1 = f)
  | _, _, .nil => rfl
  | _, _, .cons h r => by rw [List.any_cons, List.any_cons, h.1, FPs.any r]
theorem FPs.rep {f : Str} (h : FR K ob H v d) : ∀ {fv : List (Str × V)} {fs : List (Str × D)}, Paired (FP K ob H) fv fs → Paired (FP K ob H) (fv.map fun p => if p.1 = f then (p.1, v) else p) (fs.map fun p => if p.1 = f then (p.1, d) else p)
  | _, _, .nil => .nil
  | (a, x) :: fv, (b, y) :: fs, .cons q r => by
    obtain ⟨e, q2⟩ := q
    simp only at e q2
    subst e
    rw [List.map_cons, List.map_cons]
    refine .cons ?_ (FPs.rep h r)
    by_cases z : a = f
    · rw [if_pos z, if_pos z]; exact ⟨rfl, h⟩
    · rw [if_neg z, if_neg z]; exact ⟨rfl, q2⟩
theorem FPs.app : ∀ {fv gv : List (Str × V)} {fs gs : List (Str × D)}, Paired (FP K ob H) fv fs → Paired (FP K ob H) gv gs → Paired (FP K ob H) (fv ++ gv) (fs ++ gs)
  | _, _, _, _, .nil, s => s
  | _, _, _, _, .cons h r, s => .cons h (FPs.app r s)
theorem FPs.putS {f : Str} (h : FR K ob H v d) {fv : List (Str × V)} {fs : List (Str × D)} (r : Paired (FP K ob H) fv fs) : Paired (FP K ob H) (putS fv f v) (Pm.putS fs f d) := by
  unfold Pm.putS
  rw [FPs.any r]
  split
  · exact FPs.rep h r
  · exact FPs.app r (.cons ⟨rfl, h⟩ .nil)
theorem FPs.merge : ∀ {mv : List (Str × V)} {ms : List (Str × D)} {fv : List (Str × V)} {fs : List (Str × D)}, Paired (FP K ob H) mv ms → Paired (FP K ob H) fv fs → Paired (FP K ob H) (mergeS fv mv) (mergeS fs ms)
  | _, _, fv, fs, .nil, r => r
  | (a, x) :: mv, (b, y) :: ms, fv, fs, .cons q m, r => by
    obtain ⟨e, q2⟩ := q
    simp only at e q2
    show Paired (FP K ob H) (mergeS (Pm.putS fv a x) mv) (mergeS (Pm.putS fs b y) ms)
    rw [← e]
    exact FPs.merge m (FPs.putS q2 r)
end
section
variable {X : Cx} {Wx : WX} {e v a b o i : Expr} {pos apos cpos p2 : Pos} {f g gi : Dn} {lo hi : Option Expr} {gl gh : On}
end

def tPg (K : PySem.W.Frag) (mg : Str → Option Value) (Wx : WX) (g : Ls → M (List (Str × D))) : L2.St → Hp → (List (V × V) → Hp → Prop) → Prop := fun σ H Q => ∃ ws B0 sl w, Env K ws B0 sl w σ H ∧ runAt K mg Wx ws B0 sl σ H (g sl w) fun ws' _ ds H' => ∀ vs, DRs K ws' (Bad ws' B0 sl σ) H' vs (ds.map (·.2)) → Q ((ds.map fun p => V.str p.1).zip vs) H'
structure PPg (X : Cx) (Wx : WX) (pos : Pos) (keys : List (Option Expr)) (values : List Expr) (g : Ls → M (List (Str × D))) : Prop where
  get : ∃ trs, PPs X pos keys values trs ∧ ∀ σ H Q, tPg X.K X.mg Wx g σ H Q → tPairs trs σ H Q
section
variable {X : Cx} {Wx : WX} {pos : Pos} {keys : List (Option Expr)} {values : List Expr} {g : Ls → M (List (Str × D))}
end
end Pm

namespace Pm
open PySem PySem.Spec PyProof.Rows L2 RZ
def tupKF (ds : List D) : Option D := match ds with
  | [.lst l] => some (.kt l)
  | _ => none
def unk1 : D → D
  | .kt l => .tup l
  | d => d
def unkD : D → D
  | .kt l => .tup l
  | .tup l => .tup (l.map unk1)
  | d => d
def fUnk (x : M D) : M D := x.bind fun d => M.pure (unkD d)
section
variable {K : PySem.W.Frag} {ws : Wa} {B : Addr → Prop} {H : Hp}
theorem DR.unk1 (hk : kfl K = true) {v : V} {d : D} (h : DR K ws B H v d) : DR K ws B H v (Pm.unk1 d) := by
  cases h with
  | kt z n h hd r => exact .tup z (.inr (.inr ⟨hk, n, _, h⟩)) r
  | non => exact .non
  | bl b => exact .bl b
  | int i => exact .int i
  | str x => exact .str x
  | tup z t r => exact .tup z t r
  | lst z n h r => exact .lst z n h r
  | scr ns h => exact .scr ns h
  | dk n h e r => exact .dk n h e r
  | dt n h e r => exact .dt n h e r
  | town h => exact .town h
  | obj h => exact .obj h
  | fn n1 h1 n2 h2 hc r => exact .fn n1 h1 n2 h2 hc r
  | exc n h => exact .exc n h
theorem DRs.unk1 (hk : kfl K = true) : ∀ {vs : List V} {ds : List D}, DRs K ws B H vs ds → DRs K ws B H vs (ds.map Pm.unk1)
  | _, _, .nil => .nil
  | _, _, .cons h r => .cons (DR.unk1 hk h) (DRs.unk1 hk r)
theorem DR.unkD (hk : kfl K = true) {v : V} {d : D} (h : DR K ws B H v d) : DR K ws B H v (Pm.unkD d) := by
  cases h with
  | tup z t r => exact .tup (by rw [List.length_map]; exact z) t (DRs.unk1 hk r)
  | kt z n h hd r => exact .tup z (.inr (.inr ⟨hk, n, _, h⟩)) r
  | non => exact .non
  | bl b => exact .bl b
  | int i => exact .int i
  | str x => exact .str x
  | lst z n h r => exact .lst z n h r
  | scr ns h => exact .scr ns h
  | dk n h e r => exact .dk n h e r
  | dt n h e r => exact .dt n h e r
  | town h => exact .town h
  | obj h => exact .obj h
  | fn n1 h1 n2 h2 hc r => exact .fn n1 h1 n2 h2 hc r
  | exc n h => exact .exc n h
end
section
variable {X : Cx} {Wx : WX} {e : Expr} {f : Dn}
theorem m_unk (hk : kfl X.K = true) (he : PEm X Wx e f) : PEm X Wx e (fun sl => fUnk (f sl)) := by
  refine he.mimp fun σ H Q ⟨ws, B0, sl, w, e, h⟩ => ⟨ws, B0, sl, w, e, (runAt.bind h).mono fun ws1 w1 d H1 l1 e1 h1 v hv => ?_⟩
  exact runAt.here e1 h1 v (DR.unkD hk hv)
end

def rTupK (K : PySem.W.Frag) : List V → Hp → VK → Prop := fun xs H Q => ∃ p ys, xs = [.ref p] ∧ SqL K H p ys ∧ ∀ (l : Addr) (o : Obj), H l = none → o.dict = none → Q (.ref l) (upd H l (.frz o (.tup ys)))
theorem call_tupK {X : Cx} : CallR X (.type "tuple") (rTupK X.K) := by
  intro pins s σ H xs us Q I r h
  obtain ⟨p, ys, rfl, hq, q⟩ := h
  obtain ⟨u, rfl, rx⟩ := vals1 r
  cases rx
  obtain ⟨its, r', pl, hz⟩ := I.list hq
  have hlen := r'.length
  refine call_tuple_list pl.isList (fun h' kp => ?_) (by simp only [List.size_toArray] <;> omega)
  have I1 : Inv X pins σ H { s with heap := h' } := I.kept (t' := s.toks) kp
  have I2 : Inv X pins σ (upd H h'.objs.size (.frz ⟨.type "tuple", none, .seq its.toArray 0, #[]⟩ (.tup ys))) { s with heap := h'.push { cls := .type "tuple", data := .seq its.toArray } } :=
    I1.laid (t' := s.toks) (fun b o e => Heap.get?_push_of_some _ e) (Nat.le_refl _) ⟨Heap.get?_push_size _ rfl, show ObjOk X.prog X.w _ _ _ (.tup ys) from ⟨hz, its, r', IsTup.new _ _⟩⟩
  exact ⟨.ref h'.objs.size, _, I2, rfl, q _ _ (I1.hok.fresh (Nat.le_refl _)) rfl⟩
section
variable {X : Cx} {Wx : WX} {a : Expr} {pos p : Pos} {g : An}
theorem m_tupK (ha : PArm X Wx [a] g) (hm : X.mg "tuple" = none) (hg : Gl X "tuple" := by rfl) (he : starEach [a] X.env = (false, eval a X.env) :: starEach [] X.env := by rfl) : PEm X Wx (.Call (.Name "tuple" p) [a] [] pos) (fun sl => fCB tupKF (g sl)) := by
  refine (pe_callTy call_tupK hg hm (by decide +kernel) ha (by decide) (by decide) he rfl).mimp fun σ H Q ⟨ws, B0, sl, w, e, h⟩ => ?_
  refine ⟨ws, B0, sl, w, e, (runAt.bind h).mono fun ws1 w1 ds H1 l1 e1 h1 vs hv => ?_⟩
  obtain ⟨d, q2, h1⟩ := runAt.opt h1
  unfold tupKF at q2
  split at q2
  · rename_i l
    have hw := e1.rvs hv (show [D.lst l].all rdb = true from rfl)
    obtain ⟨v, rfl, zx, a, vs, rfl, t, r⟩ := one_of hw
    cases q2
    refine ⟨a, vs, rfl, .inl (.inl t), fun p o hp ho => runAt.grow (Grow.new hp) e1 h1 _ ?_⟩
    exact .kt zx (e1.fresh hp) upd_same ho (r.grow (Grow.new hp))
  · cases q2
end

end Pm

namespace Pm
open PySem PySem.Spec PyProof.Rows L2 RZ PySem.SeqAt PySem.W


section
variable {prog : Program} {w : World} {A : Around} {E : Value → Shared → Prop} {s : Shared} {env : PySem.Env}
end


section
variable {X : Cx} {Wx : WX} {a : Expr} {f : Dn} {p pos kpos lpos : Pos} {x : Str} {T : LT} {params : Arguments} {scope : Scope} {p1 p2 p3 p4 p5 p6 p7 p8 p9 : Pos} {N0 : List Str} {j : Nat}
end
end Pm

namespace Pm
open PySem PySem.Spec PySem.Calls PyProof.Rows L2 RZ PySem.SeqAt PySem.W
section
variable {prog : Program} {w : World} {A : Around} {E : Value → Shared → Prop} {s : Shared} {β : Type} {vs : List Value} {bs : List β} {R : Value → β → Prop} {enc : β → PyData}
end
end Pm

namespace Pm
open PySem PySem.Spec PyProof.Rows L2 RZ

def dpOf : D → Option (Key × D)
  | .tup [k, v] => (Pm.keyD k).map fun kk => (kk, v)
  | _ => none
def dpsOf : List D → Option (List (Key × D))
  | [] => some []
  | d :: l => (dpOf d).bind fun x => (dpsOf l).map fun r => x :: r
def dictKD : D → Option D
  | .kt l => (dpsOf l).map fun es => .dk (mergeD [] es)
  | _ => none
def fDictK (x : M D) : M D := x.bind fun d => M.opt (dictKD d)
section
variable {K : PySem.W.Frag} {ws : Wa} {B : Addr → Prop} {H : Hp}
theorem pairs_dr : ∀ {vs : List V} {l : List D} {es : List (Key × D)}, DRs K ws B H vs l → dpsOf l = some es →
    ∃ (ps : List Addr) (kvs : List (Key × V)), vs = ps.map V.ref ∧ Paired (fun p kv => SqT K H p [kV kv.1, kv.2]) ps kvs ∧ KR K ws B H kvs es
  | _, _, es, .nil, h => by cases h; exact ⟨[], [], rfl, .nil, rfl, .nil⟩
  | _, _, es, .cons (d := d) hd r, h => by
    simp only [dpsOf, Option.bind_eq_some_iff, Option.map_eq_some_iff] at h
    obtain ⟨x, hx, es', he, rfl⟩ := h
    obtain ⟨ps, kvs, rfl, h1, h2⟩ := pairs_dr r he
    unfold dpOf at hx
    split at hx
    · rename_i k v
      cases hk : Pm.keyD k with
      | none => rw [hk] at hx; cases hx
      | some kk =>
        rw [hk] at hx
        cases hx
        cases hd with
        | tup z t rr =>
          rename_i a vs2
          cases rr with
          | cons r1 rr =>
            cases rr with
            | cons r2 rr =>
              cases rr
              rename_i v1 v2
              have hk1 : v1 = kV kk := by
                cases k <;> cases hk <;> cases r1 <;> rfl
              subst hk1
              exact ⟨a :: ps, (kk, v2) :: kvs, rfl, .cons t.sq h1, KR.cons rfl r2 h2⟩
    · cases hx
end
def rDictTK (K : PySem.W.Frag) : List V → Hp → VK → Prop := fun xs H Q => ∃ (a : Addr) (ob : Obj) (ps : List Addr) (kvs : List (Key × V)), xs = [.ref a] ∧ H a = some (.frz ob (.tup (ps.map V.ref))) ∧ ob.dict = none ∧ Paired (fun p kv => SqT K H p [kV kv.1, kv.2]) ps kvs ∧
    ∀ p, H p = none → Q (.ref p) (upd H p (.dK (mergeK [] kvs)))
theorem pairs_of2 {X : Cx} {pins : List (Addr × Obj)} {σ : L2.St} {H : Hp} {s : Shared} (I : Inv X pins σ H s) : ∀ {ps : List Addr} {kvs : List (Key × V)}, Paired (fun p kv => SqT X.K H p [kV kv.1, kv.2]) ps kvs →
    ∃ (pvs : List (Value × Value)) (prs : List (Key × Value)), KV kvs prs ∧ prs.length = ps.length ∧ pvs.length = ps.length ∧ ∀ (j : Nat) (k v : Value), pvs[j]? = some (k, v) → ∃ (b : Addr) (kk : Key), ps[j]? = some b ∧ IsTup s.heap b #[k, v] ∧ prs[j]? = some (kk, v) ∧ keyIs kk k = true
  | _, _, .nil => ⟨[], [], .nil, rfl, rfl, fun j k v e => by simp at e⟩
  | _, _, .cons (a := p) (b := kv) h t => by
    obtain ⟨pvs, prs, r, hl, hl2, hp⟩ := pairs_of2 I t
    obtain ⟨its, rv, ht, _⟩ := I.tuple h
    obtain ⟨u, y, ei, ru, ry⟩ := vals2 rv
    subst ei
    refine ⟨(u, y) :: pvs, (kv.1, y) :: prs, .cons ⟨rfl, ry⟩ r, by rw [List.length_cons, List.length_cons, hl], by rw [List.length_cons, List.length_cons, hl2], fun j k v e => ?_⟩
    cases j with
    | zero =>
      have e' : (u, y) = (k, v) := Option.some.inj e
      cases e'
      exact ⟨p, kv.1, rfl, ht, rfl, kV_is (P := X.prog) (w := X.w) ru⟩
    | succ j =>
      obtain ⟨b, kk, e1, e2, e3, e4⟩ := hp j k v (by simpa using e)
      exact ⟨b, kk, by simpa using e1, e2, by simpa using e3, e4⟩
theorem call_dictTK {X : Cx} (hcalm : X.calm = true) : CallR X (.type "dict") (rDictTK X.K) := by
  intro pins s σ H xs us Q I r h
  obtain ⟨a, ob, ps, kvs, rfl, hfr, hod, hp, q⟩ := h
  obtain ⟨u, rfl, rx⟩ := vals1 r
  cases rx
  obtain ⟨g1, g2⟩ := I.hok a _ hfr
  obtain ⟨hz, its, rv, o, ho, hc, n, hdt⟩ := (show ObjOk X.prog X.w _ _ _ (.tup (ps.map V.ref)) from g2)
  rw [g1] at ho
  cases ho
  have ei := refs_at rv
  subst ei
  rw [List.length_map] at hz
  obtain ⟨pvs, prs, rel, hl, hl2, hpr⟩ := pairs_of2 I hp
  refine PySem.call_dict_pairs (knd := mixKind X.prog X.w) (kvs := prs) (PairArg.tuple a (ps.map Value.ref).toArray (fun j => ps.getD j 0) pvs) (I.ok.hd hcalm) ⟨⟨ob, n, g1, hc, hod, hdt⟩, by simp [hl2], fun j k v e => ?_⟩ ⟨by rw [hl, hl2], fun j k v e => ?_⟩ (by rw [hl2]; exact hz) fun h' tk hd' hk => ?_
  · obtain ⟨b, kk, e1, e2, _, _⟩ := hpr j k v e
    have eb : ps.getD j 0 = b := by rw [List.getD_eq_getElem?_getD, e1]; rfl
    refine ⟨?_, .inl ?_⟩
    · show (List.map Value.ref ps).toArray[j]? = some (Value.ref (ps.getD j 0))
      rw [eb]; simp [e1]
    · show IsTup s.heap (ps.getD j 0) #[k, v]
      rw [eb]; exact e2
  · obtain ⟨b, kk, _, _, e3, e4⟩ := hpr j k v e
    exact ⟨kk, e3, e4⟩
  · have hm : (s.heap.objs.size == sysModules) = false := beq_eq_false_iff_ne.mpr (Nat.ne_of_gt I.big)
    have hlen : (mergeK [] kvs).length ≤ sizeLine := by
      refine Nat.le_trans (length_mergeK kvs []) ?_
      rw [List.length_nil, Nat.zero_add, rel.length, hl]
      exact hz
    exact ⟨.ref s.heap.objs.size, upd H s.heap.objs.size (.dK (mergeK [] kvs)), I.laid (t' := tk) (fun b o e => hk b o (by simp) e) (Nat.le_refl _) (show ObjOk X.prog X.w _ _ _ (.dK (mergeK [] kvs)) from ⟨hlen, hm, merged [] prs, KV.merge rel .nil, hd'⟩), rfl, q _ (I.hok.fresh (Nat.le_refl _))⟩
section
variable {X : Cx} {Wx : WX} {a : Expr} {pos p : Pos} {f : Dn}
theorem mf_dictK (hc : X.calm = true) (ha : PEm X Wx a f) (hm : X.mg "dict" = none) (hg : Gl X "dict" := by rfl) (he : starEach [a] X.env = (false, eval a X.env) :: starEach [] X.env := by rfl) : PFm X Wx (.Call (.Name "dict" p) [a] [] pos) (fun sl => fDictK (f sl)) := by
  refine (pe_callTy (call_dictTK hc) hg hm (by decide +kernel) (pa_cons ha pa_nil he) (by decide) (by decide) he rfl).mimp fun σ H Q ⟨ws, B0, sl, w, e, h⟩ => ?_
  refine ⟨ws, B0, sl, w, e, (runAt.bind h).mono fun ws1 w1 d H1 l1 e1 h1 v hv => ?_⟩
  obtain ⟨r, q2, h2⟩ := runAt.opt h1
  cases d <;> first | (cases q2; done) | skip
  rename_i l
  cases hq : dpsOf l with
  | none => rw [show dictKD (.kt l) = (dpsOf l).map _ from rfl, hq] at q2; cases q2
  | some es =>
    rw [show dictKD (.kt l) = (dpsOf l).map (fun es => D.dk (mergeD [] es)) from rfl, hq] at q2
    cases q2
    cases hv with
    | @kt a ob vs _ zx nb hfr hod ra =>
      obtain ⟨ps, kvs, rfl, p1, p2⟩ := pairs_dr ra hq
      refine ⟨a, ob, ps, kvs, rfl, hfr, hod, p1, fun p hp => ?_⟩
      have km : KR X.K ws1 (Bad ws1 B0 sl σ) H1 (mergeK [] kvs) (mergeD [] es) := KR.merge p2 ⟨rfl, .nil⟩
      exact runAt.here e1 h2 p _ hp ⟨_, rfl, km.1, km.2⟩
end

def Tick {α : Type} (t : Sem α) : Prop := ∀ (M : Model) (Γ : PySem.Ctx) (Q : α → Pos → Shared → Prop) (E : Value → Pos → Shared → Prop) (p : Pos) (s : Shared), Sem.wp M Γ t Q E p s → Sem.wp M Γ t (fun a p' s' => 1 ≤ s'.toks ∧ Q a p' s') E p s
section
variable {α β : Type} {m : Sem α} {k : α → Sem β}
theorem Tick.left (h : Tick m) : Tick (m >>= k) := fun M Γ Q E p s q => by
  rw [Sem.wp_bind'] at q ⊢
  refine Sem.wp_mono M Γ m (fun a p' s' ⟨h1, h2⟩ => ?_) (fun _ _ _ z => z) p s (h M Γ _ _ p s q)
  exact Sem.wp_mono M Γ _ (fun _ _ _ z => z) (fun _ _ _ z => z.2) p' s' (Sem.wp_toks M Γ 1 _ _ _ p' s' h1 h2)
theorem Tick.right (h : ∀ a, Tick (k a)) : Tick (m >>= k) := fun M Γ Q E p s q => by
  rw [Sem.wp_bind'] at q ⊢
  exact Sem.wp_mono M Γ m (fun a p' s' z => h a M Γ _ _ p' s' z) (fun _ _ _ z => z) p s q
theorem Tick.hold {vs : List Value} (h : Tick m) : Tick (holding vs m) := fun M Γ Q E p s q => by
  rw [Sem.wp_holding] at q ⊢
  exact h M Γ Q E p s q
theorem tick_int (i : Int) (j : Nat) (pos : Pos) (env : PySem.Env) : Tick (eval (.Constant (.int i) j pos) env) := fun M Γ Q E p s q => by
  have e : eval (.Constant (.int i) j pos) env = mkInt i := by rw [eval, constValue]
  rw [e] at q ⊢
  unfold mkInt at q ⊢
  rw [Sem.wp_bind'] at q ⊢
  have e2 : ∀ {Q : Tok → Pos → Shared → Prop}, Sem.wp M Γ PySem.fresh Q E p s = Q s.toks p { s with toks := s.toks + 1 } := by
    intro Q
    show Sem.wp M Γ (.fresh .pure) Q E p s = _
    rw [Sem.wp_fresh]; rfl
  rw [e2] at q ⊢
  exact ⟨by show 1 ≤ s.toks + 1; omega, q⟩
theorem tick_spl {x : Sem Value} {rest : List (Bool × Sem Value)} (h : Tick x ∨ Tick (spliced rest)) : Tick (spliced ((false, x) :: rest)) := by
  unfold spliced
  rcases h with h | h
  · exact Tick.left h
  · refine Tick.right fun v => Tick.right fun here => Tick.left (Tick.hold h)
end
theorem tick_args {x : Sem Value} {rest : List (Bool × Sem Value)} {f : Value} (h : Tick (spliced ((false, x) :: rest))) : Tick (evalArgs f true ((false, x) :: rest) []) := by
  unfold evalArgs
  show Tick (spliced ((false, x) :: rest) >>= _)
  exact Tick.left h
theorem tick_call {x : Str} {p pos : Pos} {es : List Expr} {env : PySem.Env} {y : Sem Value} {rest : List (Bool × Sem Value)} (hs : backTo pos (starEach es env) = (false, y) :: rest) (h : Tick (spliced ((false, y) :: rest))) : Tick (eval (.Call (.Name x p) es [] pos) env) := by
  show Tick (do callWith pos (← eval (.Name x p) env) [] (backTo pos (starEach es env)) (backToKw pos (keywordEach [] env)))
  refine Tick.right fun f => ?_
  rw [hs]
  unfold callWith
  exact Tick.left (Tick.hold (tick_args h))
theorem tick_call3 {x : Str} {p pos cp : Pos} {e1 e2 : Expr} {i : Int} {j : Nat} {env : PySem.Env} (hs : backTo pos (starEach [e1, e2, .Constant (.int i) j cp] env) = [(false, eval e1 env), (false, eval e2 env), (false, eval (.Constant (.int i) j cp) env)] := by rfl) : Tick (eval (.Call (.Name x p) [e1, e2, .Constant (.int i) j cp] [] pos) env) :=
  tick_call hs (tick_spl (.inr (tick_spl (.inr (tick_spl (.inl (tick_int i j cp env)))))))

def replD (y z : Str) (d : D) : Option D := match d with
  | .str x => if x.length + (x.length + 1) * z.length ≤ 16777216 then some (.str (Txt.replace x y z)) else none
  | _ => none
def fRepl (y z : Str) (x : M D) : M D := x.bind fun d => M.opt (replD y z d)
section
variable {X : Cx} {Wx : WX} {o : Expr} {f : Dn} {to : TE} {y z : Str} {j k : Nat} {c0 c1 apos pos : Pos}
theorem pe_replK (ho : PE X o to) (ht : Tick (eval o X.env)) (hyz : (y == z) = false := by decide)
    (hst : starEach [.Constant (.str y) j c0, .Constant (.str z) k c1] X.env = [(false, eval (.Constant (.str y) j c0) X.env), (false, eval (.Constant (.str z) k c1) X.env)] := by rfl)
    (hbase : attributeBase o "replace" X.env (eval o X.env) = eval o X.env := by rfl) (hline : (apos.endLine == pos.line) = true := by rfl) :
    PE X (.Call (.Attribute o "replace" apos) [.Constant (.str y) j c0, .Constant (.str z) k c1] [] pos) (CwR.tReplC to y z) := by
  refine ⟨fun pins s σ H Q I h => ?_⟩
  have h1 : wpAny (model X.prog X.w) X.A (eval o X.env) (fun v s1 => 1 ≤ s1.toks ∧ EP X pins σ _ v s1) X.xe s := fun Γ p hΓ => ht _ Γ _ _ p s (ho.run pins s σ H _ I h Γ p hΓ)
  refine PySem.Call_method2 hbase hst hline (wpAny_mono h1 (fun v s1 q => ?_) fun _ _ z => z)
  obtain ⟨hk, v', H1, I1, r1, x, e1, hb, q⟩ := q
  subst e1
  obtain ⟨tx, e2⟩ := r1
  subst e2
  refine ⟨"str", _, PySem.F.plainAttrs_str, PySem.F.slot_str_replace, PySem.F.type_str_replace, typeIs_str _ _ _, (fun _ e => nomatch e), Calls.callWith_builtin rfl (Calls.evalArgs_plain (Calls.spliced_cons ?_))⟩
  refine Calls.Constant_str (Calls.spliced_cons (Calls.Constant_str (Calls.spliced_nil ?_)))
  exact PySem.SC.replace (by show s1.toks ≠ 0; omega) (by show s1.toks + 1 ≠ 0; omega) (by show s1.toks ≠ s1.toks + 1; omega) hyz hb fun t' k => ⟨.str (Txt.replace x y z), H1, I1.tok k, ⟨t', rfl⟩, q⟩
theorem m_replK (ho : PEm X Wx o f) (ht : Tick (eval o X.env)) (hyz : (y == z) = false := by decide)
    (hst : starEach [.Constant (.str y) j c0, .Constant (.str z) k c1] X.env = [(false, eval (.Constant (.str y) j c0) X.env), (false, eval (.Constant (.str z) k c1) X.env)] := by rfl)
    (hbase : attributeBase o "replace" X.env (eval o X.env) = eval o X.env := by rfl) (hline : (apos.endLine == pos.line) = true := by rfl) :
    PEm X Wx (.Call (.Attribute o "replace" apos) [.Constant (.str y) j c0, .Constant (.str z) k c1] [] pos) (fun sl => fRepl y z (f sl)) := by
  refine (pe_replK ho ht hyz hst hbase hline).mimp fun σ H Q ⟨ws, B0, sl, w, e, h⟩ => ?_
  refine ⟨ws, B0, sl, w, e, (runAt.bind h).mono fun ws1 w1 d H1 l1 e1 h1 v hv => ?_⟩
  obtain ⟨r, q2, h2⟩ := runAt.opt h1
  cases d <;> first | (cases q2; done) | skip
  rename_i x
  cases hv
  unfold replD at q2
  dsimp only at q2
  split at q2
  · rename_i hb
    cases q2
    exact ⟨x, rfl, hb, runAt.here e1 h2 _ (.str _)⟩
  · cases q2
end
end Pm

namespace Pm
open PySem PySem.Spec PyProof.Rows L2 RZ
end Pm

namespace L2
open PySem PySem.Spec PyProof.Rows
section
variable {X : Cx} {pins : List (Addr × Obj)} {σ : St} {H : Hp} {s : Shared} {W : WX}
end
end L2
namespace Pm
open PySem PySem.Spec PyProof.Rows L2 RZ
section
variable {X : Cx} {Wx : WX}
end

end Pm

namespace Pm
open PySem PySem.Spec PySem.W L2 PyProof.Rows
end Pm

namespace Pm
open PySem PySem.Spec PyProof.Rows L2
section
variable {P : Program} {w : World} {A : Around} {E : Value → Shared → Prop} {s : Shared}
variable {a b : Addr} {S : Int → Bool}
end
theorem srtI_alike : ∀ {ns : List Int} {k : Int}, ns ≠ [] → (∀ x ∈ ns, x = k) → srtI ns = [k]
  | [], _, h, _ => absurd rfl h
  | [x], k, _, h => by rw [h x List.mem_cons_self]; rfl
  | x :: y :: r, k, _, h => by
    have ih := srtI_alike (ns := y :: r) (k := k) (by simp) fun z hz => h z (List.mem_cons_of_mem _ hz)
    show insI x (srtI (y :: r)) = _
    rw [ih, h x List.mem_cons_self]
    unfold insI
    rw [if_neg (Int.lt_irrefl _), if_pos rfl]
end Pm

namespace Pm
open PySem PySem.Spec PySem.Calls PyProof.Rows L2 RZ PySem.SeqAt PySem.W
section
variable {P : Program} {w : World} {A : Around} {E : Value → Shared → Prop} {s : Shared}
structure SetTx (P : Program) (w : World) (h : Heap) (a : Addr) (l : List Str) : Prop where
  ex : ∃ D : Froz.SD, h.get? a = some (Froz.sObj "set" D) ∧ Froz.TxOk P w D l ∧ Ris D.2.2.place.toList ∧ (w.params.followText "set-order" = true ∨ D.2.2.led = true)
theorem SetTx.at' {h h' : Heap} {a : Addr} {l : List Str} (R : SetTx P w h a l) (k : ∀ o, h.get? a = some o → h'.get? a = some o) : SetTx P w h' a l := by
  obtain ⟨D, h1, h2⟩ := R.ex
  exact ⟨D, k _ h1, h2⟩
theorem tail_ris {ep : Nat} {es1 : Array (Int × Value)} {t2 : SetTable} {d : Bool} (hr : Ris t2.place.toList) : Ris (Froz.tailTx ep es1 t2 d).2.2.place.toList := by
  unfold Froz.tailTx
  split
  · exact relayAll_ris t2 es1 (SetTable.grown es1.size)
  · exact hr
theorem tail_led {ep : Nat} {es1 : Array (Int × Value)} {t2 : SetTable} {d : Bool} : (Froz.tailTx ep es1 t2 d).2.2.led = t2.led := by
  unfold Froz.tailTx
  split
  · exact relayAll_led t2 es1 (SetTable.grown es1.size)
  · rfl
theorem add_ris {D : Froz.SD} {k : Str} {u : Tok} (hr : Ris D.2.2.place.toList) : Ris (Froz.addTx (hashStr w k) (.str k u) D).2.2.place.toList := by
  unfold Froz.addTx
  refine tail_ris ?_
  have h1 := layNew_ris D.2.2 D.1 (hashStr w k) (.str k u) hr
  split <;> exact h1
theorem add_led {D : Froz.SD} {k : Str} {u : Tok} : (Froz.addTx (hashStr w k) (.str k u) D).2.2.led = D.2.2.led := by
  unfold Froz.addTx
  rw [tail_led]
  have h1 := layNew_led D.2.2 D.1 (hashStr w k) (.str k u)
  split <;> exact h1
theorem tx_add {a : Addr} {l : List Str} {k : Str} {u : Tok} {Q : Bool → Shared → Prop} (R : SetTx P w s.heap a l) (room : l.length + 1 < scanBound)
    (hQ : ∀ h' b, Heap.SameBut a s.heap h' → SetTx P w h' a (if k ∈ l then l else k :: l) → Q b { s with heap := h' }) :
    wpAny (model P w) A (setAddHashed a (.str k u) (hashStr w k)) Q E s := by
  obtain ⟨D, ho, F, hr, hl⟩ := R.ex
  by_cases hk : k ∈ l
  · rw [if_pos hk] at hQ
    obtain ⟨es, ep, t⟩ := D
    have hd : (Froz.sObj "set" (es, ep, t)).data = .set es ep t := rfl
    have hsz : es.size = l.length := F.sz
    have hb0 : es.size < scanBound := by omega
    unfold setAddHashed setAddHashedIn
    refine wpAny_holding (wpAny_bind (wpAny_setState_of ho hd F.fit ?_))
    dsimp only
    rw [byScan_of rfl hb0 F.el]
    simp only [↓reduceIte]
    unfold setAddByScan
    refine wpAny_bind ?_
    refine wpAny_bind (wpAny_rule ?_)
    refine wpAny_bind (wpAny_setScan_of (knd := PySem.strKind P w) (k := k) (Froz.is_str k u) ho hd F.fit F.el ?_)
    cases hfi : List.findIdx? (fun e => (PySem.strKind P w).is k e.2) es.toList with
    | none =>
      exfalso
      obtain ⟨e, he, q⟩ := (F.mem k).mp hk
      have c := List.findIdx?_eq_none_iff.mp hfi e he
      rw [q] at c
      cases c
    | some j =>
      dsimp only
      exact wpAny_pure (wpAny_pure (hQ s.heap _ (Heap.SameBut.refl a s.heap) R))
  · rw [if_neg hk] at hQ
    refine Froz.add_x ho F hk room (hQ _ _ (Heap.SameBut.update s.heap a _) ⟨_, Heap.get?_update_self _ ho rfl, Froz.add_ok u F, add_ris hr, ?_⟩)
    rw [add_led]
    exact hl
def addL (l : List Str) (k : Str) : List Str := if k ∈ l then l else k :: l
theorem addL_mem {l : List Str} {k z : Str} : z ∈ addL l k ↔ z ∈ l ∨ z = k := by
  unfold addL
  split
  · rename_i h
    exact ⟨.inl, fun q => q.elim id fun e => e ▸ h⟩
  · rw [List.mem_cons]
    exact Or.comm
theorem addL_nd {l : List Str} {k : Str} (h : l.Nodup) : (addL l k).Nodup := by
  unfold addL
  split
  · exact h
  · rename_i q
    exact List.nodup_cons.mpr ⟨q, h⟩
theorem addL_len {l : List Str} {k : Str} : (addL l k).length ≤ l.length + 1 := by
  unfold addL
  split
  · omega
  · simp
theorem set_update_txt {I : Addr} {fp wr : List Addr} {G : Array GenState → Array GenState → Prop} {n : Nat} {Pv : Nat → Value → Prop} {St : Nat → Shared → Prop} {R : Result → Shared → Prop}
    (W : WalksS P w A.in1 I fp wr G n Pv St) (S : Addr) (hSf : S ∉ fp) (ns : List Str) (hn : n = ns.length) (hb : ns.length + 1 < scanBound) (hval : ∀ i v, Pv i v → ∃ k t, ns[i]? = some k ∧ v = .str k t) :
    ∀ (k i : Nat) (s : Shared) (l : List Str), n - i = k → i ≤ n → St i s → SetTx P w s.heap S l → l = (ns.take i).foldl addL [] → l.length ≤ i →
      (∀ s', Moved (S :: wr) G s s' → SetTx P w s'.heap S (ns.foldl addL []) → R (.ok (.ret .none)) s') →
      codeAny (model P w) A (.builtin "set.update.loop" ⟨[.ref S, .ref I], []⟩) R s := by
  have hSw : S ∉ wr := fun h => hSf (W.sub _ h)
  have hsub : ∀ b ∈ wr, b ∈ S :: wr := fun b hb => List.mem_cons_of_mem _ hb
  intro k
  induction k with
  | zero =>
    intro i s l hk' hi hst hS hl hlen hR
    have hin : i = n := by omega
    subst hin
    refine codeAny_builtin F.entry_set_update_loop ?_
    rw [Around.under_plainId F.plain_set_update_loop _]
    show wpAny _ A.in1 (pyNext (.ref I) >>= _) _ _ s
    refine wpAny_bind (W.done s _ _ hst fun s' hm => ?_)
    show wpAny _ A.in1 (ret Value.none) _ _ s'
    rw [List.take_of_length_le (by omega)] at hl
    rw [hl] at hS
    exact wpAny_pure (hR s' (hm.mono hsub) (hS.at' fun o e => hm.heap S o hSw e))
  | succ k ih =>
    intro i s l hk' hi hst hS hl hlen hR
    have hlt : i < n := by omega
    refine codeAny_builtin F.entry_set_update_loop ?_
    rw [Around.under_plainId F.plain_set_update_loop _]
    show wpAny _ A.in1 (pyNext (.ref I) >>= _) _ _ s
    refine wpAny_bind (W.item i s _ _ hlt hst fun v s' hP hst' hm => ?_)
    obtain ⟨z, t, hz, rfl⟩ := hval i v hP
    have hS' : SetTx P w s'.heap S l := hS.at' fun o e => hm.heap S o hSw e
    show wpAny _ A.in1 (holding [Value.str z t] (setAdd S (.str z t)) >>= _) _ _ s'
    refine wpAny_bind (wpAny_holding ?_)
    unfold setAdd
    refine wpAny_holding ?_
    refine wpAny_bind ((PySem.strKind P w).pyHash (k := z) (Froz.is_str z t) ?_)
    refine tx_add (s := { s' with toks := s'.toks + 1 }) hS' (by omega) fun h' b hsb hS2 => ?_
    have hl2 : addL l z = (ns.take (i + 1)).foldl addL [] := by
      rw [List.take_add_one, hz, List.foldl_append, ← hl]
      rfl
    refine wpAny_pure ⟨plainId_quiet F.plain_set_update_loop _, ih (i + 1) _ (addL l z) (by omega) hlt (W.frame _ s' _ _ hst' (Nat.le_succ _) fun b hb o e => ?_) hS2 hl2 (by have := addL_len (l := l) (k := z); omega) fun s'' hm'' hS'' => ?_⟩
    · rw [hsb.2 b (fun h : b = S => hSf (by rw [← h]; exact hb))]; exact e
    · refine hR s'' (Moved.trans W.gtrans ((hm.mono hsub).then_heap (Nat.le_succ _) fun b o hb e => ?_) hm'') hS''
      rw [hsb.2 b (fun h : b = S => hb (by rw [h]; exact List.mem_cons_self))]; exact e
theorem call_setLS {l : Addr} {its : Array Value} (ns : List Str) {Q : Value → Shared → Prop} (hA : A.handled = none) (ht : s.heap.IsList l its) (he : StrsAre its.toList ns) (hb : ns.length + 1 < scanBound)
    (kq : ∀ (g : Heap) (tk : Nat), SetTx P w g s.heap.objs.size (ns.foldl addL []) → (∀ b o, s.heap.get? b = some o → g.get? b = some o) → Q (.ref s.heap.objs.size) { s with heap := g, toks := tk }) :
    wpAny (model P w) A (call (.type "set") [.ref l]) Q E s := by
  have hn : its.size = ns.length := by
    have q := PyProof.Rows.StrsAre.len_eq he
    rw [Array.length_toList] at q
    exact q
  obtain ⟨c0, tl0, mro0⟩ := F.called_set.mro
  have mk0 := F.called_set.made
  have sb0 := F.called_set.sub
  refine wpAny_call (codeAny_of_tree ?_)
  show wpAny _ _ (callAny (.type "set") _) _ _ s
  refine wpAny_pure ⟨Code.quiet_builtin _ (by decide +kernel), codeAny_builtin F.entry_type_call ?_⟩
  rw [Around.under_plain (weight_type_call_type "set" [.ref l] []) rfl]
  have nt0 := F.called_set.notType
  have cc0 := F.called_set.canCreate
  have tc0 := F.typeCall_set_1 (.ref l)
  repeat (any_goals (first | assumption | wp_step))
  refine codeAny_mono (code_set_led1 (.ref l) (E := E) (Q₁ := fun y s₁ => y = .ref s.heap.objs.size ∧ s₁ = { s with heap := s.heap.push (sNew w) }) ⟨rfl, rfl⟩) fun r s₁ hr => ?_
  cases r with
  | error e => exact hr
  | ok fl =>
    cases fl with
    | ret obj =>
      obtain ⟨rfl, rfl⟩ := hr
      have g0 : (s.heap.push (sNew w)).get? s.heap.objs.size = some (sNew w) := Heap.get?_push_size _ rfl
      have ty : Shared.TypeIs { s with heap := s.heap.push (sNew w) } (.ref s.heap.objs.size) "set" := ⟨_, g0, rfl⟩
      have il := F.called_set.init.lookup
      have ib := F.called_set.init.bind (.ref s.heap.objs.size)
      repeat (any_goals (first | assumption | wp_step))
      refine codeAny_mono (codeAny_call_builtin (R := wants (fun r s₂ => r = .none ∧ ∃ g tk, s₂ = { s with heap := g, toks := tk } ∧ SetTx P w g s.heap.objs.size (ns.foldl addL []) ∧ (∀ b o, s.heap.get? b = some o → g.get? b = some o)) E)
        F.called_set.init.plain F.entry_set_init (check_set_init_1 ty ?_)) fun r₂ s₂ hr₂ => ?_
      · obtain ⟨o0, ho0, hc0, n0, hd0⟩ := ht
        obtain ⟨oc, od, odt, os⟩ := o0
        simp only at hc0 hd0
        subst hc0; subst hd0
        have ho1 : (s.heap.push (sNew w)).get? l = some { cls := .type "list", dict := od, data := .seq its n0, slots := os } := Heap.get?_push_of_some _ ho0
        have st1 := F.sub_list_set
        have st2 := F.sub_list_frozenset
        have nd : (Value.type "list" == Value.type "dict") = false := by decide
        have it1 : (s.heap.push (sNew w)).IsList l its := ⟨_, ho1, rfl, n0, rfl⟩
        unfold sNew at *
        unfold Builtin.«set.__init__» noKeywords Builtin.Frozenset.updateFrom
        generalize hPI : pyIter = PI
        wp_walk
        subst hPI
        refine wpAny_pyIter_list it1 ?_
        refine wpAny_bind (wpAny_runValue ?_)
        have lt : l < s.heap.objs.size := Heap.lt_size ho0
        have hA3 : A.in1.in1.in1.handled = none := by simp [hA]
        have sz1 : (s.heap.push (sNew w)).objs.size = s.heap.objs.size + 1 := Heap.size_push ..
        have neI : l ≠ (s.heap.push (sNew w)).objs.size := by rw [sz1]; exact fun z => Nat.lt_irrefl _ (Nat.lt_trans (z ▸ lt) (Nat.lt_succ_self _))
        have nf : s.heap.objs.size ∉ [(s.heap.push (sNew w)).objs.size, l] := by
          rw [sz1]
          intro z
          rcases List.mem_cons.mp z with z | z
          · exact absurd z (Nat.ne_of_lt (Nat.lt_succ_self _))
          · exact absurd (List.mem_singleton.mp z) (Nat.ne_of_gt lt)
        have val : ∀ (i : Nat) (v : Value), its[i]? = some v → ∃ k t, ns[i]? = some k ∧ v = .str k t := fun i v hv => by
          have hi : i < ns.length := by rw [← hn]; exact (Array.getElem?_eq_some_iff.mp hv).1
          obtain ⟨t, e⟩ := PyProof.Rows.StrsAre.at he (j := i) (y := ns[i]) (List.getElem?_eq_getElem hi)
          rw [Array.getElem?_toList, hv] at e
          injection e with e
          exact ⟨ns[i], t, List.getElem?_eq_getElem hi, e⟩
        have g1 : ((s.heap.push (sNew w)).push { cls := .type "list_iterator", data := .fields #[.ref l, .int 0 0] }).get? s.heap.objs.size = some (sNew w) := Heap.get?_push_of_some _ g0
        refine set_update_txt ((Walks.list hA3 _ l neI its).toS) s.heap.objs.size nf ns hn hb val (its.size - 0) 0 _ [] (by omega) (Nat.zero_le _)
          ⟨⟨_, Heap.get?_push_size _ rfl, rfl, rfl⟩, (it1.push _)⟩ ⟨(#[], 0, .fresh 0 0 (!w.params.followText "set-order")), g1, Froz.TxOk.nil rfl, List.Pairwise.nil, by
            show _ ∨ (!w.params.followText "set-order") = true
            cases w.params.followText "set-order"
            · exact .inr rfl
            · exact .inl rfl⟩ rfl (Nat.le_refl _) ?last
        case last =>
          intro s' hm hS
          obtain ⟨g, g2, d', tk', os'⟩ := s'
          obtain rfl : g2 = s.gens := hm.gens
          obtain rfl : d' = s.drawn := hm.drawn
          obtain rfl : os' = s.os := hm.os
          show wpAny _ _ _ _ _ _
          refine wpAny_pure ?_
          show wpAny _ _ (ret Value.none) _ _ _
          refine wpAny_pure ⟨rfl, g, tk', rfl, hS, fun b o e => ?_⟩
          have b0 : b < s.heap.objs.size := Heap.lt_size e
          refine hm.heap b o (fun z => ?_) (Heap.get?_push_of_some _ (Heap.get?_push_of_some _ e))
          rcases List.mem_cons.mp z with z | z
          · exact Nat.ne_of_lt b0 z
          · have := List.mem_singleton.mp z
            rw [Heap.size_push] at this
            exact absurd this (Nat.ne_of_lt (Nat.lt_succ_of_lt b0))
      · cases r₂ with
        | error e => exact hr₂
        | ok fl₂ =>
          cases fl₂ with
          | ret r =>
            obtain ⟨rfl, g, tk, rfl, hS, hk'⟩ := hr₂
            repeat (any_goals (first | assumption | wp_step))
            exact kq _ _ hS hk'
          | _ => exact hr₂.elim
    | _ => exact hr.elim

theorem perm_of_sub : ∀ {l m : List Str}, l.Nodup → (∀ x ∈ l, x ∈ m) → m.length = l.length → m.Perm l
  | [], m, _, _, h => by rw [List.eq_nil_of_length_eq_zero h]
  | x :: l, m, hn, hs, h => by
    obtain ⟨m1, m2, rfl⟩ := List.append_of_mem (hs x List.mem_cons_self)
    obtain ⟨n1, n2⟩ := List.nodup_cons.mp hn
    refine List.perm_middle.trans ((perm_of_sub n2 (fun y hy => ?_) (by simp at h ⊢; omega)).cons x)
    have hy2 := hs y (List.mem_cons_of_mem _ hy)
    rcases List.mem_append.mp hy2 with q | q
    · exact List.mem_append_left _ q
    · rcases List.mem_cons.mp q with q | q
      · subst q; exact absurd hy n1
      · exact List.mem_append_right _ q
def strOf : Value → Str
  | .str x _ => x
  | _ => Str.empty
def leT (a b : Str) : Bool := decide (a.cps.toList ≤ b.cps.toList)
def srtS (l : List Str) : List Str := l.mergeSort leT
theorem leT_trans (a b c : Str) : leT a b = true → leT b c = true → leT a c = true := fun h1 h2 => by
  unfold leT at *
  rw [decide_eq_true_iff] at *
  exact List.le_trans h1 h2
theorem leT_total (a b : Str) : (leT a b || leT b a) = true := by
  unfold leT
  rw [Bool.or_eq_true, decide_eq_true_iff, decide_eq_true_iff]
  exact List.le_total _ _
theorem leT_anti {a b : Str} (h1 : leT a b = true) (h2 : leT b a = true) : a = b := by
  unfold leT at *
  rw [decide_eq_true_iff] at *
  exact str_of_cps (List.le_antisymm h1 h2)
theorem uniqT : ∀ {a b : List Str}, a.Pairwise (fun x y => leT x y = true) → b.Pairwise (fun x y => leT x y = true) → a.Perm b → a = b
  | [], b, _, _, h => (List.nil_perm.mp h).symm
  | x :: a, [], _, _, h => by have := h.length_eq; simp at this
  | x :: a, y :: b, ha, hb, h => by
    obtain ⟨a1, a2⟩ := List.pairwise_cons.mp ha
    obtain ⟨b1, b2⟩ := List.pairwise_cons.mp hb
    have hself : ∀ z, leT z z = true := fun z => by have := leT_total z z; simpa using this
    have h1 : leT y x = true := by
      rcases List.mem_cons.mp (h.mem_iff.mp (List.mem_cons_self (a := x))) with q | q
      · rw [q]; exact hself y
      · exact b1 x q
    have h2 : leT x y = true := by
      rcases List.mem_cons.mp (h.mem_iff.mpr (List.mem_cons_self (a := y))) with q | q
      · rw [q]; exact hself x
      · exact a1 y q
    have e := leT_anti h2 h1
    subst e
    rw [uniqT a2 b2 (List.Perm.cons_inv h)]
theorem srtS_perm {a b : List Str} (h : a.Perm b) : srtS a = srtS b := by
  refine uniqT (List.pairwise_mergeSort (le := leT) leT_trans leT_total a) (List.pairwise_mergeSort (le := leT) leT_trans leT_total b) ?_
  exact (List.mergeSort_perm a leT).trans (h.trans (List.mergeSort_perm b leT).symm)
theorem sorted_setTx {a : Addr} {l : List Str} {Q : Value → Shared → Prop} (R : SetTx P w s.heap a l) (hh : A.handled = none) (hn : l.Nodup) (hl : l.length ≤ 1000) (hu : A.units + 10 < cLine)
    (h : ∀ s' p out c, (∀ b o, s.heap.get? b = some o → s'.heap.get? b = some o) → s'.gens = s.gens → s'.os = s.os → s.heap.objs.size ≤ p → s'.heap.get? p = some (seqObj "list" (List.toArray out) c) → EachIs (fun v (b : Str) => ∃ t, v = Value.str b t) out (srtS l) → Q (.ref p) s') :
    wpAny (model P w) A (call (.builtin "sorted") [.ref a]) Q E s := by
  obtain ⟨⟨es, ep, t⟩, ho, F, hr, hled⟩ := R.ex
  have hsz : es.size = l.length := F.sz
  refine Calls.call_function_entry kind_sorted plain_sorted entry_sorted (args_sorted1 _) ?_
  unfold Builtin.«sorted»
  refine wpAny_bind (m := checkCount "sorted" 1 1 _) (wpAny_pure ?_)
  refine wpAny_bind (collect_set (A := A.in1) hh ⟨_, ho, rfl, rfl⟩ F.fit (by show es.size < scanBound; unfold scanBound; omega) hr hled fun s1 vs k1 hz g1 o1 pm => ?_)
  have hvs : ∀ v ∈ vs, ∃ k t, v = Value.str k t := fun v hv => by
    obtain ⟨e, he, rfl⟩ := List.mem_map.mp (pm.mem_iff.mp hv)
    obtain ⟨⟨k, hk, _⟩, _⟩ := F.el e he
    have hk : Value.isStrOf k e.2 = true := hk
    cases q : e.2 with
    | str x t => exact ⟨x, t, rfl⟩
    | _ => rw [q] at hk; simp [Value.isStrOf] at hk
  have hpl : (vs.map strOf).Perm l := by
    refine perm_of_sub hn (fun x hx => ?_) ?_
    · obtain ⟨e, he, q⟩ := (F.mem x).mp hx
      have q : Value.isStrOf x e.2 = true := q
      have hm : e.2 ∈ vs := pm.mem_iff.mpr (List.mem_map.mpr ⟨e, he, rfl⟩)
      refine List.mem_map.mpr ⟨e.2, hm, ?_⟩
      cases z : e.2 with
      | str y t =>
        rw [z] at q
        have : x = y := by first | exact beq_iff_eq.mp q | exact (beq_iff_eq.mp q).symm
        rw [this]; rfl
      | _ => rw [z] at q; simp [Value.isStrOf] at q
    · rw [List.length_map, pm.length_eq, List.length_map, Array.length_toList, hsz]
  have hvl : vs.length ≤ 1000 := by have := hpl.length_eq; rw [List.length_map] at this; omega
  have eaR : EachIs (fun v (b : Str) => ∃ t, v = Value.str b t) vs (vs.map strOf) := by
    have : ∀ us : List Value, (∀ v ∈ us, ∃ k t, v = Value.str k t) → EachIs (fun v (b : Str) => ∃ t, v = Value.str b t) us (us.map strOf) := by
      intro us
      induction us with
      | nil => intro _; exact .nil
      | cons v us ih =>
        intro hu
        obtain ⟨k, t, rfl⟩ := hu v List.mem_cons_self
        exact .cons ⟨t, rfl⟩ (ih fun u hv => hu u (List.mem_cons_of_mem _ hv))
    exact this vs hvs
  refine wpAny_bind (wpAny_newList ?_ (by rw [sizeLine_eq]; omega))
  refine wpAny_bind (wpAny_holding ?_)
  have hoL : (s1.heap.push (seqObj "list" vs.toArray 0)).get? s1.heap.objs.size = some (seqObj "list" vs.toArray 0) := Heap.get?_push_size _ rfl
  show wpAny (model P w) A.in1 (call (.builtin "list.sort") [.ref s1.heap.objs.size]) _ E { s1 with heap := s1.heap.push (seqObj "list" vs.toArray 0) }
  refine list_sort_data (s := { s1 with heap := s1.heap.push (seqObj "list" vs.toArray 0) }) (R := fun v (b : Str) => ∃ t, v = Value.str b t) (enc := PyData.str) (bs := vs.map strOf) hoL eaR (eaR.mono fun v b r => ⟨[], by obtain ⟨t, rfl⟩ := r; exact ⟨Reads.str b t, by simp⟩⟩) (fun d hd d' hd' => ?_) (.inr fun d hd => ?_) (by rw [List.length_map, sizeLine_eq]; omega) (fun b _ => by show A.units + 1 + 1 + 0 < _; omega) fun out hl2 hout => ?_
  · obtain ⟨x, _, rfl⟩ := List.mem_map.mp hd
    obtain ⟨y, _, rfl⟩ := List.mem_map.mp hd'
    rfl
  · obtain ⟨x, _, rfl⟩ := List.mem_map.mp hd
    exact ⟨fun z => (by cases z), fun xs z => (by cases z)⟩
  · obtain ⟨c, hc⟩ := sortedHeap_at (vs := vs) (out := List.toArray out) hoL
    have e1 : (vs.map strOf).mergeSort (dataLe false PyData.str) = srtS l := by
      rw [show (dataLe false PyData.str) = leT from dataLe_str (fun x : Str => x)]
      exact srtS_perm hpl
    rw [e1] at hout
    refine wpAny_pure ⟨_, rfl, h _ s1.heap.objs.size out c (fun b u e => ?_) g1 o1 hz hc hout⟩
    have q := k1 b u e
    have hlt := Heap.lt_size q
    show (sortedHeap (s1.heap.push (seqObj "list" vs.toArray 0)) s1.heap.objs.size vs (List.toArray out)).get? b = some u
    rw [sortedHeap_old (Nat.ne_of_lt hlt) (by rw [size_push']; exact Nat.lt_succ_of_lt hlt)]
    exact Heap.get?_push_of_some _ q
end
end Pm
namespace Pm
open PySem PySem.Spec PySem.Calls PyProof.Rows L2 RZ PySem.SeqAt PySem.W

def SetTxO (P : Program) (w : World) (a : Addr) (l : List Str) : HO := .ext fun h => SetTx P w h a l
theorem setTxO_new {P : Program} {w : World} {H : Hp} {h : Heap} {a : Addr} {l : List Str} (R : SetTx P w h a l) : ObjOk P w H h a (SetTxO P w a l) := by
  have ⟨D, ho, _⟩ := R.ex
  exact ⟨R, ⟨_, ho⟩, fun h1 h2 p k => SetTx.at' p k⟩
def rSetTx (K : PySem.W.Frag) (P : Program) (w : World) : List V → Hp → VK → Prop := fun xs H Q => ∃ (l : Addr) (ns : List Str), xs = [V.ref l] ∧ SqL K H l (ns.map V.str) ∧ ns.length ≤ 1000 ∧
  ∀ a, H a = none → Q (.ref a) (upd H a (SetTxO P w a (ns.foldl addL [])))
theorem cr_setTx {X : Cx} (hc : X.calm = true) : CallR X (.type "set") (rSetTx X.K X.prog X.w) := by
  intro pins s σ H xs us Q I r h
  obtain ⟨l, ns, rfl, hl, hz, q⟩ := h
  obtain rfl := Vals.ref1 r
  have hn : H s.heap.objs.size = none := I.hok.fresh (Nat.le_refl _)
  obtain ⟨its, rv, pl, _⟩ := I.list hl
  refine call_setLS ns (I.ok.hd hc) pl.isList (by simpa using strsAre_of rv) (by unfold scanBound; omega) fun g tk R k => ?_
  exact ⟨.ref s.heap.objs.size, upd H s.heap.objs.size (SetTxO X.prog X.w s.heap.objs.size (ns.foldl addL [])), I.laid (t' := tk) k (Nat.le_refl _) (setTxO_new R), rfl, q _ hn⟩
theorem foldl_nd : ∀ (ns l : List Str), l.Nodup → (ns.foldl addL l).Nodup
  | [], _, h => h
  | x :: ns, l, h => foldl_nd ns (addL l x) (addL_nd h)
theorem foldl_len : ∀ (ns l : List Str), (ns.foldl addL l).length ≤ l.length + ns.length
  | [], l => by simp
  | x :: ns, l => by
    have h1 := foldl_len ns (addL l x)
    have h2 := addL_len (l := l) (k := x)
    rw [List.foldl_cons, List.length_cons]
    omega
def rSortTx (P : Program) (w : World) : List V → Hp → VK → Prop := fun vs H Q => ∃ (a : Addr) (l : List Str), vs = [V.ref a] ∧ H a = some (SetTxO P w a l) ∧ l.Nodup ∧ l.length ≤ 1000 ∧
  ∀ p, H p = none → Q (.ref p) (upd H p (.lst ((srtS l).map V.str)))
theorem vals_of_each : ∀ {out : List Value} {bs : List Str}, EachIs (fun v (b : Str) => ∃ t, v = Value.str b t) out bs → Vals (bs.map V.str) out
  | _, _, .nil => .nil
  | _, _, .cons r t => .cons r (vals_of_each t)
theorem cr_sortTx {X : Cx} (hc : X.calm = true) (hu : X.A.units + 64 < cLine) : CallR X (.builtin "sorted") (rSortTx X.prog X.w) := by
  intro pins s σ H vs us Q I r h
  obtain ⟨a, l, rfl, ha, hnd, hz, q⟩ := h
  have R : SetTx X.prog X.w s.heap a l := (I.hok a _ ha).1
  rw [Vals.ref1 r]
  refine sorted_setTx R (I.ok.hd hc) hnd hz (by omega) fun s' p out c k g o hp hg hi => ?_
  have hlen : ((srtS l).map V.str).length ≤ sizeLine := by
    rw [List.length_map]
    unfold srtS
    rw [List.length_mergeSort, sizeLine_eq]
    omega
  have hn : H p = none := I.hok.fresh hp
  have J : Inv X pins σ (upd H p (.lst ((srtS l).map V.str))) { s with heap := s'.heap, gens := s'.gens, drawn := s'.drawn, toks := s'.toks } :=
    I.call (ch := []) (Un.laid k hp hn) (I.hok.laid k hp ⟨hlen, out, c, vals_of_each hi, hg⟩) (by rw [g]; exact I.bare) (fun _ z => nomatch z)
  have e : s' = { s with heap := s'.heap, gens := s'.gens, drawn := s'.drawn, toks := s'.toks } := by
    cases s'
    cases s
    cases o
    rfl
  rw [e]
  exact ⟨.ref p, _, J, rfl, q p hn⟩
def rSSTx (K : PySem.W.Frag) (P : Program) (w : World) : List V → Hp → VK → Prop := fun xs H Q => rSetTx K P w xs H fun v H1 => rSortTx P w [v] H1 Q
def ssTxF : List D → Option D := fun ds => match ds with
  | [.lst l] => (strsD l).bind fun ns => if ns.length ≤ 1000 then some (.lst ((srtS (ns.foldl addL [])).map D.str)) else none
  | _ => none
theorem strsD_eq : ∀ {ds : List D} {ns : List Str}, strsD ds = some ns → ds = ns.map D.str
  | [], _, h => by cases h; rfl
  | d :: ds, ns, h => by
    cases d <;> first | (cases h; done) | skip
    simp only [strsD, Option.map_eq_some_iff] at h
    obtain ⟨js, hj, rfl⟩ := h
    rw [List.map_cons, strsD_eq hj]
theorem drs_strT {K : PySem.W.Frag} {ws : Wa} {B : Addr → Prop} {H : Hp} : ∀ {vs : List V} {ns : List Str}, DRs K ws B H vs (ns.map D.str) → vs = ns.map V.str
  | _, [], h => by cases h; rfl
  | _, n :: ns, h => by
    rw [List.map_cons] at h
    cases h with
    | cons a r => cases a; rw [List.map_cons, ← drs_strT r]
theorem strs_drs {K : PySem.W.Frag} {ws : Wa} {B : Addr → Prop} {H : Hp} : ∀ ns : List Str, DRs K ws B H (ns.map V.str) (ns.map D.str)
  | [] => .nil
  | n :: ns => .cons (.str n) (strs_drs ns)
theorem cs_SSTx {K : PySem.W.Frag} {P : Program} {w : World} : CallS K (rSSTx K P w) ssTxF := by
  intro ws B H xs ds d Q hb hx ho q
  unfold ssTxF at ho
  split at ho
  · rename_i l
    obtain ⟨v, rfl, hv⟩ := one_of hx
    obtain ⟨ns, h1, h2⟩ := Option.bind_eq_some_iff.mp ho
    split at h2
    · rename_i hz
      cases h2
      obtain rfl := strsD_eq h1
      obtain ⟨z, a, vs, rfl, ha, ra⟩ := hv
      obtain rfl := drs_strT ra
      have hlen := foldl_len ns []
      rw [List.length_nil, Nat.zero_add] at hlen
      refine ⟨a, ns, rfl, .inl (.inl ha), hz, fun b hn => ⟨b, _, rfl, upd_same, foldl_nd ns [] List.nodup_nil, by omega, fun p hp => ?_⟩⟩
      have g1 : Grow H (upd H b (SetTxO P w b (ns.foldl addL []))) := Grow.new hn
      have g2 : Grow (upd H b (SetTxO P w b (ns.foldl addL []))) (upd (upd H b (SetTxO P w b (ns.foldl addL []))) p (.lst ((srtS (ns.foldl addL [])).map V.str))) := Grow.new hp
      have nB : ¬ B p := fun z => by
        have h1 := hb p z
        by_cases e : p = b
        · subst e; exact h1 hn
        · rw [upd_ne e] at hp; exact h1 hp
      refine q _ _ (g1.trans g2) (.lst ?_ nB upd_same (strs_drs _))
      rw [List.length_map]
      unfold srtS
      rw [List.length_mergeSort, sizeLine_eq]
      omega
    · cases h2
  · cases ho
theorem ct_SSTx : CallT ssTxF := fun ds d h => by
  unfold ssTxF at h
  split at h <;> first | rfl | cases h
theorem m_sortSetTx {X : Cx} {Wx : WX} {a : Expr} {pos p p2 q : Pos} {g : An} (hc : X.calm = true) (hu : X.A.units + 64 < cLine) (ha : PArm X Wx [a] g) (hm : X.mg "sorted" = none) (hm2 : X.mg "set" = none) (hg : Gl X "sorted" := by rfl) (hg2 : Gl X "set" := by rfl) (he : starEach [a] X.env = (false, eval a X.env) :: starEach [] X.env := by rfl) :
    PEm X Wx (.Call (.Name "sorted" p) [.Call (.Name "set" p2) [a] [] q] [] pos) (fun sl => fCB ssTxF (g sl)) := by
  have h1 := pe_callTy (pos := q) (p := p2) (cr_setTx hc) hg2 hm2 (by decide +kernel) ha (by decide) (by decide) he rfl
  refine (pe_callB (cr_sortTx hc hu) hg hm (by decide +kernel) (pa_cons h1 pa_nil rfl) (by decide) (by decide) rfl rfl).mimp fun σ H Q h => ?_
  exact fCB_go (cs_SSTx (P := X.prog) (w := X.w)) ct_SSTx σ H Q h

def rLenSI (w : World) : List V → Hp → VK → Prop := fun vs H Q => ∃ (a : Addr) (S : Int → Bool) (n : Nat), vs = [V.ref a] ∧ H a = some (SetO w a S n) ∧ n ≤ 1000 ∧ Q (.int n) H
theorem cr_lenSI {X : Cx} : CallR X (.builtin "len") (rLenSI X.w) := by
  intro pins s σ H vs us Q I r h
  obtain ⟨a, S, n, rfl, ha, hn, q⟩ := h
  rw [Vals.ref1 r]
  obtain ⟨o, es, ep, t, ho, hex, hd, _, _, _, _, hf, hsz, _⟩ := setO_get I ha
  refine call_len_set ho hex hd hf (by rw [hsz]; omega) ⟨.int n, H, I.tok _, ⟨_, by rw [hsz]⟩, q⟩
def rLSI (K : PySem.W.Frag) (w : World) : List V → Hp → VK → Prop := fun xs H Q => rSetI K w xs H fun v H1 => rLenSI w [v] H1 Q
def lsIF : List D → Option D := fun ds => match ds with
  | [.lst l] => (intsD l).bind fun ns => if ns.length ≤ 1000 then some (.int ((srtI ns).length : Nat)) else none
  | _ => none
theorem srtI_len : ∀ ns : List Int, (srtI ns).length ≤ ns.length
  | [] => Nat.le_refl _
  | x :: ns => by
    have h := srtI_len ns
    have : ∀ l : List Int, (insI x l).length ≤ l.length + 1 := by
      intro l
      induction l with
      | nil => simp [insI]
      | cons y l ih =>
        unfold insI
        split
        · simp
        · split
          · simp
          · simp; exact ih
    show (insI x (srtI ns)).length ≤ _
    have := this (srtI ns)
    rw [List.length_cons]
    omega
theorem cs_LSI {K : PySem.W.Frag} {w : World} : CallS K (rLSI K w) lsIF := by
  intro ws B H xs ds d Q hb hx ho q
  unfold lsIF at ho
  split at ho
  · rename_i l
    obtain ⟨v, rfl, hv⟩ := one_of hx
    obtain ⟨ns, h1, h2⟩ := Option.bind_eq_some_iff.mp ho
    split at h2
    · rename_i hz
      cases h2
      obtain rfl := intsD_eq h1
      obtain ⟨z, a, vs, rfl, ha, ra⟩ := hv
      have e := drs_ints ra
      rw [intsV] at e
      subst e
      have hl := srtI_len ns
      exact ⟨a, ns, rfl, .inl (.inl (.inl ha)), hz, fun b hn => ⟨b, _, _, rfl, upd_same, by omega, q _ _ (Grow.new hn) (.int _)⟩⟩
    · cases h2
  · cases ho
theorem ct_LSI : CallT lsIF := fun ds d h => by
  unfold lsIF at h
  split at h <;> first | rfl | cases h
theorem m_lenSetI {X : Cx} {Wx : WX} {a : Expr} {pos p p2 q : Pos} {g : An} (hc : X.calm = true) (ha : PArm X Wx [a] g) (hm : X.mg "len" = none) (hm2 : X.mg "set" = none) (hg : Gl X "len" := by rfl) (hg2 : Gl X "set" := by rfl) (he : starEach [a] X.env = (false, eval a X.env) :: starEach [] X.env := by rfl) :
    PEm X Wx (.Call (.Name "len" p) [.Call (.Name "set" p2) [a] [] q] [] pos) (fun sl => fCB lsIF (g sl)) := by
  have h1 := pe_callTy (pos := q) (p := p2) (cr_setI hc) hg2 hm2 (by decide +kernel) ha (by decide) (by decide) he rfl
  refine (pe_callB cr_lenSI hg hm (by decide +kernel) (pa_cons h1 pa_nil rfl) (by decide) (by decide) rfl rfl).mimp fun σ H Q h => ?_
  exact fCB_go (cs_LSI (w := X.w)) ct_LSI σ H Q h

def ninStr (x y : D) : Option D := match x, y with
  | .str a, .str b => some (.bl (!(!(Builtin.Str.occurrences b a 0 b.length 1).isEmpty)))
  | _, _ => none
def rNinStr : R2 := fun x y H Q => ∃ i j, x = .str i ∧ y = .str j ∧ Q (.bl (!(!(Builtin.Str.occurrences j i 0 j.length 1).isEmpty))) H
theorem so_ninStr {K : PySem.W.Frag} : OpS K rNinStr ninStr := by
  intro ws B H x y d e r Q hb hx hy h q
  cases d <;> cases e <;> first | (cases h; done) | skip
  cases h
  exact ⟨_, _, hx, hy, q _ _ (Grow.refl H) (.bl _)⟩
theorem ot_ninStr : OpT ninStr := fun x y d h => by cases x <;> cases y <;> first | exact ⟨rfl, rfl⟩ | cases h
end Pm
namespace Pm
open PySem PySem.Spec PyProof.Rows L2


def nts (ns : List Int) : List D := ns.map D.int
theorem nts_len (ns : List Int) : (nts ns).length = ns.length := List.length_map ..
theorem sizeIs : sizeLine = 16777216 := by decide
section
variable {α β : Type}
theorem f_bin (op : D → D → Option D) (a b : D) : fBin op (M.pure a) (M.pure b) = M.opt (op a b) := rfl
theorem f_nil : fNil = M.pure [] := rfl
theorem f_cons (a : D) (l : List D) : fCons (M.pure a) (M.pure l) = M.pure (a :: l) := rfl
theorem f_tup (l : List D) : fTup (M.pure l) = M.pure (.tup l) := rfl
theorem f_lst (l : List D) : fLst (M.pure l) = M.pure (.lst l) := rfl
theorem f_call (m : Mf) (l : List D) : fCall m (M.pure l) = m l := rfl
theorem f_cb (fn : List D → Option D) (l : List D) : fCB fn (M.pure l) = M.opt (fn l) := rfl
theorem f_if (b : Bool) (x y : M α) : fIf (M.pure b) x y = if b = true then x else y := rfl
theorem f_ofv (d : D) : fOf (M.pure d) = M.opt (blD d) := rfl
theorem f_of (b : Bool) : fOf (M.pure (.bl b)) = M.pure b := rfl
theorem bl_bl (b : Bool) : blD (.bl b) = some b := rfl
theorem f_tru (d : D) : fTru (M.pure d) = M.opt (truD d) := rfl
theorem f_andB (b : Bool) (g : M Bool) : fAndB (M.pure b) g = if b = true then g else M.pure false := rfl
theorem f_orB (b : Bool) (g : M Bool) : fOrB (M.pure b) g = if b = true then M.pure true else g := rfl
theorem f_notB (b : Bool) : fNotB (M.pure b) = M.pure (!b) := rfl
theorem f_and (b : Bool) (g : M D) : fAnd (M.pure (.bl b)) g = if b = true then g else M.pure (.bl false) := rfl
theorem f_or (b : Bool) (g : M D) : fOr (M.pure (.bl b)) g = if b = true then M.pure (.bl true) else g := rfl
theorem f_not (d : D) : fNot (M.pure d) = (M.opt (truD d)).bind fun b => M.pure (.bl (!b)) := rfl
theorem f_neg (i : Int) : fNeg (M.pure (.int i)) = M.pure (.int (-i)) := rfl
theorem f_chain (o o' : D → D → Option D) (a b : D) (z : M D) : fChain o o' (M.pure a) (M.pure b) z = (M.opt (o a b)).bind fun r => (M.opt (blD r)).bind fun t => if t = true then z.bind fun c => M.opt (o' b c) else M.pure (.bl false) := rfl
theorem f_sl (d : D) (i j : Option Int) : fSl (M.pure d) (M.pure i) (M.pure j) = M.opt (slD d i j) := rfl
theorem f_ono : fONo = M.pure none := rfl
theorem f_oso (i : Int) : fOSo (M.pure (.int i)) = M.pure (some i) := rfl
theorem ls_lst (l : List D) : lstD (.lst l) = some l := rfl
theorem in_int (i : Int) : intD (.int i) = some i := rfl
theorem ng_int (i : Int) : negD (.int i) = some (.int (-i)) := rfl
theorem f_items (d : D) : fItems (M.pure d) = M.opt (itemsD d) := rfl
theorem i_tup (l : List D) : itemsD (.tup l) = some l := rfl
theorem i_lst (l : List D) : itemsD (.lst l) = some l := rfl
theorem f_zip (x y : D) : fZip (M.pure [x, y]) = M.opt (zipD x y) := rfl
theorem z_tup (a b : List D) : zipD (.tup a) (.tup b) = some (zipL a b) := rfl
theorem z_lst (a b : List D) : zipD (.lst a) (.lst b) = some (zipL a b) := rfl
theorem zl_nil (ys : List D) : zipL [] ys = [] := rfl
theorem zl_cons (x y : D) (xs ys : List D) : zipL (x :: xs) (y :: ys) = .tup [x, y] :: zipL xs ys := rfl
theorem f_enum (x : D) : fEnum (M.pure [x]) = M.opt (enumD x) := rfl
theorem en_tup (a : List D) : enumD (.tup a) = some (enumL 0 a) := rfl
theorem en_lst (a : List D) : enumD (.lst a) = some (enumL 0 a) := rfl
theorem en_nil (n : Nat) : enumL n [] = [] := rfl
theorem en_cons (n : Nat) (x : D) (xs : List D) : enumL n (x :: xs) = .tup [.int n, x] :: enumL (n + 1) xs := rfl
theorem f_rng (l : List D) : fRng (M.pure l) = M.opt (rngF l) := rfl
theorem f_lc (l : List D) (f : D → M D) : fLC (M.pure l) f = (fMapM f l).bind fun r => M.pure (.lst r) := rfl
theorem f_lcf (l : List D) (f : D → M (Option D)) : fLCf (M.pure l) f = (fFltM f l).bind fun r => M.pure (.lst r) := rfl
theorem f_lc2 (l : List D) (f : D → M (List D)) : fLC2 (M.pure l) f = (fCatM f l).bind fun r => if r.length ≤ sizeLine then M.pure (.lst r) else M.bad := rfl
theorem f_in (l : List D) (f : D → M D) : fIn (M.pure l) f = fMapM f l := rfl
theorem f_lz (x y : D) : fLz (M.pure [x, y]) = (M.opt (zipD x y)).bind fun l => M.pure (.lst l) := rfl
theorem f_app (l : List D) (a : D) : fApp (.lst l) (M.pure a) = M.opt (appL l a) := rfl
theorem a_app {l : List D} {a : D} (h : l.length < 16777216) : appL l a = some (.lst (l ++ [a])) := if_pos (by rw [sizeIs]; exact h)
theorem f_ext (l : List D) (a : D) : fExt (.lst l) (M.pure a) = M.opt (extL l a) := rfl
theorem a_ext {l m : List D} (h : l.length + m.length ≤ 16777216) : extL l (.lst m) = some (.lst (l ++ m)) := if_pos (by rw [sizeIs]; exact h)
theorem f_seti (l : List D) (k v : D) : fSetI (.lst l) (M.pure k) v = M.opt (setL l k v) := rfl
theorem f_isi (T : String) (d : D) : fIsi T (M.pure d) = (M.opt (isiD T d)).bind fun b => M.pure (.bl b) := rfl
theorem f_u2 (a b : D) (k : D → D → M α) : fU2 (.tup [a, b]) k = k a b := rfl
theorem f_u3 (a b c : D) (k : D → D → D → M α) : fU3 (.tup [a, b, c]) k = k a b c := rfl
theorem f_u4 (a b c d : D) (k : D → D → D → D → M α) : fU4 (.tup [a, b, c, d]) k = k a b c d := rfl

theorem x_nil (f : D → M D) : fMapM f [] = M.pure [] := rfl
theorem x_cons (f : D → M D) (x : D) (xs : List D) : fMapM f (x :: xs) = (noEx (f x)).bind fun a => (fMapM f xs).bind fun r => M.pure (a :: r) := rfl
def mapX (f : α → M D) : List α → M (List D)
  | [] => M.pure []
  | x :: xs => (noEx (f x)).bind fun a => (mapX f xs).bind fun r => M.pure (a :: r)
theorem mx_nil (f : α → M D) : mapX f [] = M.pure [] := rfl
theorem mx_cons (f : α → M D) (x : α) (xs : List α) : mapX f (x :: xs) = (noEx (f x)).bind fun a => (mapX f xs).bind fun r => M.pure (a :: r) := rfl
theorem x_map (f : D → M D) (E : α → D) : ∀ l : List α, fMapM f (l.map E) = mapX (fun x => f (E x)) l
  | [] => rfl
  | x :: l => by rw [List.map_cons, fMapM, mapX, x_map f E l]
theorem x_pure (g : α → D) : ∀ l : List α, mapX (fun x => M.pure (g x)) l = M.pure (l.map g)
  | [] => rfl
  | x :: l => by rw [mapX, x_pure g l]; rfl
theorem mapX_congr {f g : α → M D} : ∀ {l : List α}, (∀ x ∈ l, f x = g x) → mapX f l = mapX g l
  | [], _ => rfl
  | x :: l, h => by rw [mapX, mapX, h x List.mem_cons_self, mapX_congr fun y hy => h y (List.mem_cons_of_mem _ hy)]
theorem mapX_of {f : α → M D} {g : α → D} {l : List α} (h : ∀ x ∈ l, f x = M.pure (g x)) : mapX f l = M.pure (l.map g) := by rw [mapX_congr h, x_pure]
theorem map_of {f : D → M D} {E : α → D} {g : α → D} {l : List α} (h : ∀ x ∈ l, f (E x) = M.pure (g x)) : fMapM f (l.map E) = M.pure (l.map g) := by rw [x_map, mapX_of h]
theorem xf_nil (f : D → M (Option D)) : fFltM f [] = M.pure [] := rfl
theorem xf_cons (f : D → M (Option D)) (x : D) (xs : List D) : fFltM f (x :: xs) = (noEx (f x)).bind fun a => (fFltM f xs).bind fun r => M.pure (a.toList ++ r) := rfl
theorem flt_of {f : D → M (Option D)} {E : α → D} {g : α → Option D} : ∀ {l : List α}, (∀ x ∈ l, f (E x) = M.pure (g x)) → fFltM f (l.map E) = M.pure (l.filterMap g)
  | [], _ => rfl
  | x :: l, h => by
    rw [List.map_cons, fFltM, h x List.mem_cons_self, flt_of fun y hy => h y (List.mem_cons_of_mem _ hy)]
    cases q : g x <;> simp [q, List.filterMap_cons]
theorem xc_nil (f : D → M (List D)) : fCatM f [] = M.pure [] := rfl
theorem xc_cons (f : D → M (List D)) (x : D) (xs : List D) : fCatM f (x :: xs) = (noEx (f x)).bind fun a => (fCatM f xs).bind fun r => M.pure (a ++ r) := rfl
theorem ls_nil (n : Nat) : List.replicate 0 n = [] := rfl
theorem ls_cons (f : α → β) (a : α) (l : List α) : (a :: l).map f = f a :: l.map f := rfl
theorem for_nil {σ : Type} (b : D → σ → (σ → M α) → M α) (st : σ) (k : σ → M α) : fFor b [] st k = k st := rfl
theorem for_cons {σ : Type} (b : D → σ → (σ → M α) → M α) (x : D) (xs : List D) (st : σ) (k : σ → M α) : fFor b (x :: xs) st k = b x st fun st' => fFor b xs st' k := rfl
end

theorem o_add (i j : Int) : addD (.int i) (.int j) = some (.int (i + j)) := rfl
theorem o_iadd (i j : Int) : iaddD (.int i) (.int j) = some (.int (i + j)) := rfl
theorem o_addT {l m : List D} (h : l.length + m.length ≤ 16777216) : addD (.tup l) (.tup m) = some (.tup (l ++ m)) := if_pos (by rw [sizeIs]; exact h)
theorem o_addL {l m : List D} (h : l.length + m.length ≤ 16777216) : addD (.lst l) (.lst m) = some (.lst (l ++ m)) := if_pos (by rw [sizeIs]; exact h)
theorem ix_tup (l : List D) (i : Int) : ixD (.tup l) (.int i) = atI l i := rfl
theorem ix_lst (l : List D) (i : Int) : ixD (.lst l) (.int i) = atI l i := rfl
theorem ix_scr (l : List Int) (i : Int) : ixD (.scr l) (.int i) = (atI l i).map D.int := rfl
theorem sl_tup (l : List D) (i j : Option Int) : slD (.tup l) i j = some (.tup (cutL l i j)) := rfl
theorem sl_lst (l : List D) (i j : Option Int) : slD (.lst l) i j = some (.lst (cutL l i j)) := rfl
theorem o_sub (i j : Int) : subD (.int i) (.int j) = some (.int (i - j)) := rfl
theorem o_mul {i j : Int} (h : CMul i j) : mulD (.int i) (.int j) = some (.int (i * j)) := if_pos h
theorem o_mulL {i j : Int} (h1 : -18446744073709551616 < i) (h2 : i < 18446744073709551616) : mulD (.int i) (.int j) = some (.int (i * j)) := o_mul (.inl ⟨h1, h2⟩)
theorem o_mulR {i j : Int} (h1 : -18446744073709551616 < j) (h2 : j < 18446744073709551616) : mulD (.int i) (.int j) = some (.int (i * j)) := o_mul (.inr ⟨h1, h2⟩)
theorem o_div {i j : Int} (h1 : 0 < j) (h2 : j < 1073741824) : fdivD (.int i) (.int j) = some (.int (i / j)) := if_pos (c := CDiv i j) ⟨h1, h2⟩
theorem o_mod {i j : Int} (h : 0 < j) : modD (.int i) (.int j) = some (.int (i % j)) := if_pos h
theorem o_lt (i j : Int) : ltD (.int i) (.int j) = some (.bl (decide (i < j))) := rfl
theorem o_le (i j : Int) : leD (.int i) (.int j) = some (.bl (decide (i ≤ j))) := rfl
theorem o_gt (i j : Int) : gtD (.int i) (.int j) = some (.bl (decide (j < i))) := rfl
theorem o_ge (i j : Int) : geD (.int i) (.int j) = some (.bl (decide (j ≤ i))) := rfl
theorem o_eq (i j : Int) : eqD (.int i) (.int j) = some (.bl (i == j)) := by unfold eqD; rw [if_pos (.inl rfl)]; unfold deq; rfl
theorem o_ne (i j : Int) : neD (.int i) (.int j) = some (.bl (!(i == j))) := by unfold neD; rw [if_pos (.inl rfl)]; unfold deq; rfl
theorem n_ot (b : Bool) : (!(!b)) = b := Bool.not_not b
theorem b_len_t (l : List D) : lenF [.tup l] = some (.int l.length) := rfl
theorem b_len_l (l : List D) : lenF [.lst l] = some (.int l.length) := rfl
theorem b_len_s (l : List Int) : lenF [.scr l] = some (.int l.length) := rfl
theorem b_abs (i : Int) : absF [.int i] = some (.int (if i < 0 then -i else i)) := rfl
theorem b_int_i (i : Int) : intF [.int i] = some (.int i) := rfl
theorem b_int_b (b : Bool) : intF [.bl b] = some (.int (if b then 1 else 0)) := rfl
theorem b_sum (l : List D) : sumF [.lst l] = (intsOf l).map fun ns => .int ns.sum := rfl
theorem b_all (l : List D) : allF [.lst l] = (blsOf l).map fun ns => .bl (ns.all id) := rfl
theorem b_any (l : List D) : anyF [.lst l] = (blsOf l).map fun ns => .bl (ns.any id) := rfl
theorem b_tup_l (l : List D) : tupF [.lst l] = some (.tup l) := rfl
theorem b_tup_t (l : List D) : tupF [.tup l] = some (.tup l) := rfl
theorem b_lst_l (l : List D) : lstF [.lst l] = some (.lst l) := rfl
theorem b_lst_t (l : List D) : lstF [.tup l] = some (.lst l) := rfl
theorem b_max2 (i j : Int) : maxF [.int i, .int j] = some (.int (max i j)) := rfl
theorem b_max3 (i j k : Int) : maxF [.int i, .int j, .int k] = some (.int (max (max i j) k)) := rfl
theorem b_min2 (i j : Int) : minF [.int i, .int j] = some (.int (min i j)) := rfl
theorem b_min3 (i j k : Int) : minF [.int i, .int j, .int k] = some (.int (min (min i j) k)) := rfl
theorem t_bl (b : Bool) : truD (.bl b) = some b := rfl
theorem t_int (i : Int) : truD (.int i) = some (i != 0) := rfl
theorem t_tup (l : List D) : truD (.tup l) = some (!l.isEmpty) := rfl
theorem t_lst (l : List D) : truD (.lst l) = some (!l.isEmpty) := rfl
theorem t_non : truD .non = some false := rfl
theorem isi_int' {d : D} (h : plainD d = true) : isiD "int" d = some (isiInt d) := isi_int h
theorem isi_bool' {d : D} (h : plainD d = true) : isiD "bool" d = some (isiBool d) := isi_bool h
theorem isi_tup' {d : D} (h : plainD d = true) : isiD "tuple" d = some (isiTup d) := isi_tup h
theorem isi_str' {d : D} (h : plainD d = true) : isiD "str" d = some (isiStr d) := isi_str h
theorem dn_non : isND .non .non = some (.bl true) := rfl
theorem dn_int (i : Int) : isND (.int i) .non = some (.bl false) := rfl
theorem dn_bl (i : Bool) : isND (.bl i) .non = some (.bl false) := rfl
theorem dn_str (i : Str) : isND (.str i) .non = some (.bl false) := rfl
theorem dn_tup (i : List D) : isND (.tup i) .non = some (.bl false) := rfl
theorem dnn_non : isNND .non .non = some (.bl false) := rfl
theorem dnn_int (i : Int) : isNND (.int i) .non = some (.bl true) := rfl
theorem dnn_bl (i : Bool) : isNND (.bl i) .non = some (.bl true) := rfl
theorem dnn_str (i : Str) : isNND (.str i) .non = some (.bl true) := rfl
theorem dnn_tup (i : List D) : isNND (.tup i) .non = some (.bl true) := rfl

theorem atI_of {α : Type} {xs : List α} {i : Int} {n : Nat} {x : α} (hi : i = n) (h : xs[n]? = some x) : atI xs i = some x := by subst hi; exact atI_nat h
theorem at0 (x : D) (l : List D) : atI (x :: l) 0 = some x := atI_of (n := 0) rfl rfl
theorem at1 (x y : D) (l : List D) : atI (x :: y :: l) 1 = some y := atI_of (n := 1) rfl rfl
theorem at2 (x y z : D) (l : List D) : atI (x :: y :: z :: l) 2 = some z := atI_of (n := 2) rfl rfl
theorem at3 (x y z u : D) (l : List D) : atI (x :: y :: z :: u :: l) 3 = some u := atI_of (n := 3) rfl rfl
theorem at4 (x y z u v : D) (l : List D) : atI (x :: y :: z :: u :: v :: l) 4 = some v := atI_of (n := 4) rfl rfl
theorem atI_mem {α : Type} {xs : List α} {i : Int} (h0 : 0 ≤ i) (h1 : i < xs.length) : ∃ x ∈ xs, atI xs i = some x := by
  have hk : i.toNat < xs.length := by omega
  exact ⟨xs[i.toNat], List.getElem_mem hk, atI_of (Int.toNat_of_nonneg h0).symm (List.getElem?_eq_getElem hk)⟩
theorem rng_A {j : Int} (h0 : 0 ≤ j) (h1 : j ≤ 16777216) : rngF [.int j] = some ((List.range j.toNat).map fun (k : Nat) => .int k) := if_pos ⟨by rw [sizeIs]; omega, by omega⟩

theorem ints_of {α : Type} (f : α → Int) (l : List α) : intsOf (l.map fun x => .int (f x)) = some (l.map f) := by
  have e : (l.map fun x => D.int (f x)) = (l.map f).map D.int := by rw [List.map_map]; rfl
  rw [e, intsOf_map]
theorem bls_of {α : Type} (f : α → Bool) (l : List α) : blsOf (l.map fun x => .bl (f x)) = some (l.map f) := by
  have e : (l.map fun x => D.bl (f x)) = (l.map f).map D.bl := by rw [List.map_map]; rfl
  rw [e, blsOf_map]

theorem o_neT {x y : D} (h : okd 40 x = true) (h' : okd 40 y = true) : neD x y = some (.bl (!deq x y)) := by unfold neD; rw [if_pos (.inr ⟨h, h'⟩)]
theorem o_eqT {x y : D} (h : okd 40 x = true) (h' : okd 40 y = true) : eqD x y = some (.bl (deq x y)) := by unfold eqD; rw [if_pos (.inr ⟨h, h'⟩)]
theorem okd_int (n : Nat) (i : Int) : okd n (.int i) = true := by unfold okd; rfl
theorem okd_tup (n : Nat) (l : List D) : okd (n + 1) (.tup l) = l.all (okd n) := by rw [okd]
theorem okd_lst (n : Nat) (l : List D) : okd (n + 1) (.lst l) = l.all (okd n) := by rw [okd]
mutual
theorem deq_self : ∀ d : D, ∀ n, okd n d = true → deq d d = true
  | .non, n, h => by unfold deq; rfl
  | .bl _, n, h => by unfold deq; simp
  | .int _, n, h => by unfold deq; simp
  | .str _, n, h => by unfold deq; simp
  | .tup l, 0, h => by simp [okd] at h
  | .tup l, n + 1, h => by unfold deq; rw [okd] at h; exact deqs_self l n h
  | .lst l, 0, h => by simp [okd] at h
  | .lst l, n + 1, h => by unfold deq; rw [okd] at h; exact deqs_self l n h
  | .scr _, n, h => by cases n <;> simp [okd] at h
  | .dk _, n, h => by cases n <;> simp [okd] at h
  | .dt _, n, h => by cases n <;> simp [okd] at h
  | .town, n, h => by cases n <;> simp [okd] at h
  | .fn _ _ _, n, h => by cases n <;> simp [okd] at h
  | .obj _, n, h => by cases n <;> simp [okd] at h
  | .exc _, n, h => by cases n <;> simp [okd] at h
  | .kt _, n, h => by cases n <;> simp [okd] at h
theorem deqs_self : ∀ (l : List D) (n : Nat), l.all (okd n) = true → deqs l l = true
  | [], _, _ => by unfold deqs; rfl
  | d :: l, n, h => by
    simp only [List.all_cons, Bool.and_eq_true] at h
    unfold deqs
    rw [deq_self d n h.1, deqs_self l n h.2]; rfl
end
theorem o_ne_self {x : D} (h : okd 40 x = true) : neD x x = some (.bl false) := by rw [o_neT h h, deq_self x 40 h]; rfl
theorem o_eq_self {x : D} (h : okd 40 x = true) : eqD x x = some (.bl true) := by rw [o_eqT h h, deq_self x 40 h]


def Dr {α : Type} (k : Nat) (m : M α) (P : α → Prop) : Prop := ∀ (t : List Int) (o : List (Option Ob)), t.length + k ≤ 900000 → ∃ a t' n, m ⟨some t, o⟩ = .ok a ⟨some t', o ++ n⟩ ∧ P a ∧ t'.length ≤ t.length + k
section
variable {α β : Type}
theorem Dr.of0 {k : Nat} {m : M α} {P : α → Prop} (h : ∀ (t : List Int) (o : List (Option Ob)), t.length + k ≤ 900000 → ∃ a t', m ⟨some t, o⟩ = .ok a ⟨some t', o⟩ ∧ P a ∧ t'.length ≤ t.length + k) : Dr k m P := fun t o ht => by
  obtain ⟨a, t', h1, h2, h3⟩ := h t o ht
  exact ⟨a, t', [], by rw [h1]; simp, h2, h3⟩
theorem Dr.pure {k : Nat} {a : α} {P : α → Prop} (h : P a) : Dr k (M.pure a) P := .of0 fun t o _ => ⟨a, t, rfl, h, by omega⟩
theorem Dr.bind {k j : Nat} {m : M α} {f : α → M β} {P : α → Prop} {Q : β → Prop} (h : Dr k m P) (hf : ∀ a, P a → Dr j (f a) Q) : Dr (k + j) (m.bind f) Q := fun t o ht => by
  obtain ⟨a, t1, n1, h1, h2, h3⟩ := h t o (by omega)
  obtain ⟨b, t2, n2, h4, h5, h6⟩ := hf a h2 t1 _ (by omega)
  refine ⟨b, t2, n1 ++ n2, ?_, h5, by omega⟩
  unfold M.bind
  rw [h1]
  show f a _ = _
  rw [h4, List.append_assoc]
theorem Dr.more {k j : Nat} {m : M α} {P : α → Prop} (h : Dr k m P) (l : k ≤ j) : Dr j m P := fun t o ht => by
  obtain ⟨a, t1, n1, h1, h2, h3⟩ := h t o (by omega)
  exact ⟨a, t1, n1, h1, h2, by omega⟩
theorem Dr.imp {k : Nat} {m : M α} {P Q : α → Prop} (h : Dr k m P) (f : ∀ a, P a → Q a) : Dr k m Q := fun t o ht => by
  obtain ⟨a, t1, n1, h1, h2, h3⟩ := h t o ht
  exact ⟨a, t1, n1, h1, f a h2, h3⟩
theorem Dr.then {K : Nat} {m : M α} {f : α → M β} {P : α → Prop} {Q : β → Prop} (k : Nat) (h : Dr k m P) (l : k ≤ K) (hf : ∀ a, P a → Dr (K - k) (f a) Q) : Dr K (m.bind f) Q := (Dr.bind h hf).more (by omega)
theorem Dr.ite {k : Nat} {c : Prop} [Decidable c] {x y : M α} {P : α → Prop} (h1 : c → Dr k x P) (h2 : ¬ c → Dr k y P) : Dr k (if c then x else y) P := by
  by_cases h : c
  · rw [if_pos h]; exact h1 h
  · rw [if_neg h]; exact h2 h
theorem Dr.noEx {k : Nat} {m : M α} {P : α → Prop} (h : Dr k m P) : Dr k (Pm.noEx m) P := fun t o ht => by
  obtain ⟨a, t1, n1, h1, h2⟩ := h t o ht
  exact ⟨a, t1, n1, by unfold Pm.noEx; rw [h1], h2⟩
theorem dr_for {σ : Type} {body : D → σ → (σ → M α) → M α} {P : α → Prop} (I : σ → Prop) (n j : Nat) (k : σ → M α) : ∀ (xs : List D), (∀ x ∈ xs, ∀ st i (k' : σ → M α), I st → (∀ st', I st' → Dr i (k' st') P) → Dr (n + i) (body x st k') P) → ∀ st, I st → (∀ st', I st' → Dr j (k st') P) → Dr (n * xs.length + j) (fFor body xs st k) P
  | [], _, st, h0, hk => by rw [List.length_nil, Nat.mul_zero, Nat.zero_add]; exact hk st h0
  | x :: xs, hb, st, h0, hk => by
    have e : n * (x :: xs).length + j = n + (n * xs.length + j) := by rw [List.length_cons, Nat.mul_succ]; omega
    rw [e]
    exact hb x List.mem_cons_self st _ _ h0 fun st' h' => dr_for I n j k xs (fun y hy => hb y (List.mem_cons_of_mem _ hy)) st' h' hk
theorem dr_map {f : D → M D} {P : D → Prop} (n : Nat) : ∀ (xs : List D), (∀ x ∈ xs, Dr n (f x) P) → Dr (n * xs.length) (fMapM f xs) (fun l => l.length = xs.length ∧ ∀ y ∈ l, P y)
  | [], _ => Dr.pure ⟨rfl, fun y h => nomatch h⟩
  | x :: xs, h => by
    have e : n * (x :: xs).length = n + (n * xs.length + 0) := by rw [List.length_cons, Nat.mul_succ]; omega
    rw [e]
    refine Dr.bind (h x List.mem_cons_self).noEx fun a ha => Dr.bind (dr_map n xs fun y hy => h y (List.mem_cons_of_mem _ hy)) fun l ⟨h1, h2⟩ => Dr.pure ⟨by simp [h1], fun y hy => ?_⟩
    rcases List.mem_cons.mp hy with rfl | hy
    · exact ha
    · exact h2 y hy
end
end Pm
noncomputable section
namespace Pm
open PySem PySem.Spec PyProof.Rows L2
def j1__law_draw (_law_script_ : D) (_law_town_ : D) (_law_many_ : D) : M D :=
  (M.bind (twTru _law_town_) fun _ => M.bind (M.pure (D.int 0)) fun a2_ => M.bind (twApp _law_town_ a2_) fun _ =>
  (M.bind ((M.pure _law_town_).bind twLen) fun _law_k_ =>
  (M.bind (fIf (fTru (M.pure _law_script_)) (fBin ixD (M.pure _law_script_) (fBin modD (M.pure _law_k_) (fCB lenF (fCons (M.pure _law_script_) fNil)))) (M.pure (D.int 0))) fun _law_cell_ =>
  (M.bind (fBin modD ((M.pure _law_town_).bind twAt0) (M.pure (D.int 65536))) fun _law_digits_ =>
  (M.bind (fBin fdivD ((M.pure _law_town_).bind twAt0) (M.pure (D.int 65536))) fun a3_ => M.bind (twSet0 _law_town_ a3_) fun _ =>
  (M.bind (fBin modD (fBin addD (fBin addD (M.pure _law_cell_) (fBin mulD (M.pure (D.int 40503)) (M.pure _law_digits_))) (fBin mulD (M.pure (D.int 104729)) (M.pure _law_k_))) (M.pure (D.int 4294967291))) fun _law_number_ =>
  (M.bind (fBin modD (fBin mulD (fBin modD (fBin mulD (M.pure _law_number_) (M.pure _law_number_)) (M.pure (D.int 4294967279))) (M.pure (D.int 48271))) (M.pure (D.int 4294967291))) fun _law_number_ =>
  (M.bind (fBin modD (fBin mulD (fBin modD (fBin mulD (M.pure _law_number_) (M.pure _law_number_)) (M.pure (D.int 4294967279))) (M.pure (D.int 69621))) (M.pure (D.int 4294967291))) fun _law_more_ =>
  (fBin modD (fBin addD (fBin mulD (fBin fdivD (M.pure _law_number_) (M.pure (D.int 64))) (M.pure (D.int 67108864))) (fBin fdivD (M.pure _law_more_) (M.pure (D.int 64)))) (M.pure _law_many_))))))))))
def p__law_draw (_law_script_ : D) (_law_town_ : D) (_law_many_ : D) : M D :=
  (fIf (fNotB ((M.pure _law_town_).bind twTru))
  (M.bind (twTru _law_town_) fun _ => M.bind (fCB maxF (fCons (fBin addD (fLC (fItems (M.pure _law_script_)) fun _law_cell_ => (fCB absF (fCons (M.pure _law_cell_) fNil))) (fLst (fCons (M.pure (D.int 0)) fNil))) fNil)) fun a1_ => M.bind (twApp _law_town_ a1_) fun _ =>
  (j1__law_draw _law_script_ _law_town_ _law_many_))
  (j1__law_draw _law_script_ _law_town_ _law_many_))
def m__law_draw : Mf := fun ds => match ds with
  | [_law_script_, _law_town_, _law_many_] => p__law_draw _law_script_ _law_town_ _law_many_
  | _ => M.bad
def p__law_pick (_law_script_ : D) (_law_town_ : D) (_law_some_ : D) : M D :=
  (fBin ixD (M.pure _law_some_) (fCall m__law_draw (fCons (M.pure _law_script_) (fCons (M.pure _law_town_) (fCons (fCB lenF (fCons (M.pure _law_some_) fNil)) fNil)))))
def m__law_pick : Mf := fun ds => match ds with
  | [_law_script_, _law_town_, _law_some_] => p__law_pick _law_script_ _law_town_ _law_some_
  | _ => M.bad

theorem maxE (ns : List Int) : maxF [.lst (ns.map (fun n => D.int (if n < 0 then -n else n)) ++ [.int 0])] = some (.int ((ns.map (fun n => if n < 0 then -n else n) ++ [0]).tail.foldl max ((ns.map (fun n => if n < 0 then -n else n) ++ [0]).headD 0))) := by
  have e : ns.map (fun n => D.int (if n < 0 then -n else n)) ++ [.int 0] = (ns.map (fun n => if n < 0 then -n else n) ++ [0]).map D.int := by simp
  rw [e]
  unfold maxF bigF
  simp only [intsOf_map]
  cases ns <;> rfl
theorem draw_tail (o : List (Option Ob)) (ns t : List Int) (many : Int) (hm : 0 < many) (x0 : Int) (hl : t.length < 1000000) (hx : t[0]? = some x0) : ∃ r t', j1__law_draw (.scr ns) .town (.int many) ⟨some t, o⟩ = .ok (.int r) ⟨some t', o⟩ ∧ 0 ≤ r ∧ r < many ∧ t'.length = t.length + 1 := by
  obtain ⟨y, t, rfl⟩ : ∃ y t', t = y :: t' := by cases t with | nil => cases hx | cons y t => exact ⟨y, t, rfl⟩
  have c : ∃ c, ∀ k : Int, k = ((y :: t) ++ [0]).length → (fIf (fTru (M.pure (.scr ns))) (fBin ixD (M.pure (.scr ns)) (fBin modD (M.pure (.int k)) (fCB lenF (fCons (M.pure (.scr ns)) fNil)))) (M.pure (.int 0))) = M.pure (.int c) := by
    cases ns with
    | nil => exact ⟨0, fun _ _ => rfl⟩
    | cons n r =>
      have hp : (0 : Int) < ((n :: r).length : Nat) := by simp only [List.length_cons]; omega
      have b1 := Int.emod_nonneg (((y :: t) ++ [0]).length : Int) (Int.ne_of_gt hp)
      have b2 := Int.emod_lt_of_pos (((y :: t) ++ [0]).length : Int) hp
      have hk : ((((y :: t) ++ [0]).length : Int) % ((n :: r).length : Nat)).toNat < (n :: r).length := by omega
      refine ⟨(n :: r)[((((y :: t) ++ [0]).length : Int) % ((n :: r).length : Nat)).toNat], fun k e => ?_⟩
      subst e
      have q : atI (n :: r) (((((y :: t) ++ [0]).length : Nat) : Int) % ((n :: r).length : Nat)) = some _ := atI_of (Int.toNat_of_nonneg b1).symm (List.getElem?_eq_getElem hk)
      rw [f_tru, f_nil, f_cons, f_cb, b_len_s, opt_some, f_bin, o_mod hp, opt_some, f_bin, ix_scr, q]
      rfl
  obtain ⟨c, hc⟩ := c
  have hz : (y :: t).length < sizeLine := by rw [sizeIs]; omega
  have hd : 0 < many := hm
  unfold j1__law_draw
  have s1 : twTru .town ⟨some (y :: t), o⟩ = .ok true ⟨some (y :: t), o⟩ := rfl
  have s2 : twApp .town (.int 0) ⟨some (y :: t), o⟩ = .ok .non ⟨some ((y :: t) ++ [0]), o⟩ := by unfold twApp; simp only; rw [if_pos hz]
  have s3 : twLen .town ⟨some ((y :: t) ++ [0]), o⟩ = .ok (.int ((y :: t) ++ [0]).length) ⟨some ((y :: t) ++ [0]), o⟩ := rfl
  have s4 : twAt0 .town ⟨some ((y :: t) ++ [0]), o⟩ = .ok (.int y) ⟨some ((y :: t) ++ [0]), o⟩ := rfl
  have s5 : ∀ v, twSet0 .town (.int v) ⟨some ((y :: t) ++ [0]), o⟩ = .ok .non ⟨some (v :: (t ++ [0])), o⟩ := fun v => rfl
  have ev : ∀ {α β : Type} (m : M α) (f : α → M β) (w w' : W) (a : α), m w = .ok a w' → M.bind m f w = f a w' := fun m f w w' a h => by unfold M.bind; rw [h]
  have t4 : fBin modD ((M.pure D.town).bind twAt0) (M.pure (.int 65536)) ⟨some ((y :: t) ++ [0]), o⟩ = .ok (.int (y % 65536)) ⟨some ((y :: t) ++ [0]), o⟩ := by
    unfold fBin; rw [pure_bind, ev _ _ _ _ _ s4, pure_bind, o_mod (by decide)]; rfl
  have t5 : fBin fdivD ((M.pure D.town).bind twAt0) (M.pure (.int 65536)) ⟨some ((y :: t) ++ [0]), o⟩ = .ok (.int (y / 65536)) ⟨some ((y :: t) ++ [0]), o⟩ := by
    unfold fBin; rw [pure_bind, ev _ _ _ _ _ s4, pure_bind, o_div (by decide) (by decide)]; rfl
  rw [ev _ _ _ _ _ s1, pure_bind, ev _ _ _ _ _ s2, pure_bind, ev _ _ _ _ _ s3, hc _ rfl, pure_bind, ev _ _ _ _ _ t4, ev _ _ _ _ _ t5, ev _ _ _ _ _ (s5 _)]
  simp (config := { maxSteps := 3000000 }) (disch := first | omega | (simp only [List.length_map, List.length_cons, List.length_nil, List.length_append, List.length_replicate, List.length_set, List.length_range, nts_len, List.length_take, List.length_drop]; omega) | kernel_rfl) only [in_int, ng_int, mx_nil, mx_cons, o_ne_self, o_eq_self, ls_lst, Pm.pure_bind, bad_bind, raise_bind, opt_some, opt_none, Pm.bind_assoc, Pm.bind_pure, f_bin, f_nil, f_cons, f_tup, f_lst, f_call, f_cb, f_if, f_of, f_ofv, f_tru, f_andB, f_orB, f_notB, f_and, f_or, f_not, f_neg, f_chain, f_sl, f_ono, f_oso, f_items, f_zip, f_enum, f_rng, f_lc, f_lcf, f_lc2, f_in, f_lz, f_app, f_ext, f_seti, f_isi, f_u2, f_u3, f_u4, i_tup, i_lst, z_tup, z_lst, zl_nil, zl_cons, en_tup, en_lst, en_nil, en_cons, x_nil, x_cons, x_map, x_pure, xf_nil, xf_cons, xc_nil, xc_cons, noEx_pure, o_add, o_sub, o_lt, o_le, o_gt, o_ge, o_eq, o_ne, o_mulL, o_mulR, o_div, o_mod, o_addT, o_addL, o_iadd, Pm.ix_tup, ix_lst, Pm.sl_tup, sl_lst, b_len_t, b_len_l, b_abs, b_int_i, b_int_b, b_sum, b_all, b_any, b_tup_l, b_tup_t, b_lst_l, b_lst_t, b_max2, b_max3, b_min2, b_min3, t_bl, t_int, t_tup, t_lst, t_non, a_app, a_ext, bl_bl, decide_true, decide_false, Bool.not_true, Bool.not_false, if_true, if_false, Bool.false_eq_true, for_nil, for_cons, ls_cons, ls_nil, at0, at1, at2, at3, at4, List.cons_append, List.nil_append, List.length_cons, List.length_nil, List.length_map, n_ot, isi_int', isi_bool', isi_tup', isi_str', dn_non, dn_int, dn_tup, dn_str, dn_bl, dnn_non, dnn_int, dnn_tup, dnn_str, dnn_bl, decide_eq_true_eq, fBin, fCons, fTup, fLst, fCall, fCB, fIf, fOf, fTru, fAndB, fOrB, fNotB, fAnd, fOr, fNot, fNeg, fChain, fSl, fOSo, fItems, fZip, fEnum, fRng, fLC, fLCf, fLC2, fIn, fLz, fApp, fExt, fSetI, fIsi]
  refine ⟨_, _, rfl, Int.emod_nonneg _ (by omega), Int.emod_lt_of_pos _ hm, by simp⟩
theorem scr_abs (ns : List Int) (hn : ns.length ≤ 63) : fLC (fItems (M.pure (.scr ns))) (fun _law_cell_ => (fCB absF (fCons (M.pure _law_cell_) fNil))) = M.pure (.lst (ns.map fun n => .int (if n < 0 then -n else n))) := by
  have e : itemsD (.scr ns) = some (ns.map D.int) := if_pos (by rw [sizeIs]; omega)
  rw [f_items, e, opt_some, f_lc, map_of (f := fun _law_cell_ => fCB absF (fCons (M.pure _law_cell_) fNil)) (E := D.int) (g := fun n => .int (if n < 0 then -n else n)) (l := ns) (fun x _ => rfl)]
  rfl
theorem dr_draw {ns : List Int} {many : Int} (hn : ns.length ≤ 63) (hm : 0 < many) : Dr 2 (m__law_draw [.scr ns, .town, .int many]) (fun d => ∃ r, d = .int r ∧ 0 ≤ r ∧ r < many) := .of0 fun t o ht => by
  have ev : ∀ {α β : Type} (m : M α) (f : α → M β) (w w' : W) (a : α), m w = .ok a w' → M.bind m f w = f a w' := fun m f w w' a h => by unfold M.bind; rw [h]
  show ∃ a t', p__law_draw (.scr ns) .town (.int many) ⟨some t, o⟩ = .ok a ⟨some t', o⟩ ∧ _
  unfold p__law_draw
  cases t with
  | cons x t =>
    obtain ⟨r, t', h1, h2, h3, h4⟩ := draw_tail o ns (x :: t) many hm x (by simp at ht ⊢; omega) rfl
    refine ⟨.int r, t', ?_, ⟨r, rfl, h2, h3⟩, by omega⟩
    have s1 : fNotB ((M.pure D.town).bind twTru) ⟨some (x :: t), o⟩ = .ok false ⟨some (x :: t), o⟩ := rfl
    unfold fIf
    rw [ev _ _ _ _ _ s1]
    exact h1
  | nil =>
    have s1 : fNotB ((M.pure D.town).bind twTru) ⟨some [], o⟩ = .ok true ⟨some [], o⟩ := rfl
    have s2 : twTru .town ⟨some [], o⟩ = .ok false ⟨some [], o⟩ := rfl
    unfold fIf
    rw [ev _ _ _ _ _ s1, if_pos rfl, ev _ _ _ _ _ s2, scr_abs ns hn]
    have e : fBin addD (M.pure (.lst (ns.map fun n => .int (if n < 0 then -n else n)))) (fLst (fCons (M.pure (.int 0)) fNil)) = M.pure (.lst ((ns.map fun n => .int (if n < 0 then -n else n)) ++ [.int 0])) := by
      rw [f_nil, f_cons, f_lst, f_bin, o_addL (by simp; omega)]; rfl
    rw [e, f_nil, f_cons, f_cb, maxE, opt_some, pure_bind]
    obtain ⟨r, t', h1, h2, h3, h4⟩ := draw_tail o ns [(ns.map (fun n => if n < 0 then -n else n) ++ [0]).tail.foldl max ((ns.map (fun n => if n < 0 then -n else n) ++ [0]).headD 0)] many hm _ (by simp) rfl
    refine ⟨.int r, t', ?_, ⟨r, rfl, h2, h3⟩, by simp at h4 ⊢; omega⟩
    rw [ev _ _ ⟨some [], o⟩ ⟨some [(ns.map (fun n => if n < 0 then -n else n) ++ [0]).tail.foldl max ((ns.map (fun n => if n < 0 then -n else n) ++ [0]).headD 0)], o⟩ .non (by
      unfold twApp; simp only; rw [if_pos (by rw [sizeIs]; simp)]; rfl)]
    exact h1
theorem dr_pick {ns : List Int} {l : List D} (hn : ns.length ≤ 63) (hl : l ≠ []) : Dr 2 (m__law_pick [.scr ns, .town, .lst l]) (fun d => d ∈ l) := by
  show Dr 2 (p__law_pick (.scr ns) .town (.lst l)) _
  unfold p__law_pick
  simp only [in_int, ng_int, mx_nil, mx_cons, o_ne_self, o_eq_self, ls_lst, Pm.pure_bind, bad_bind, raise_bind, opt_some, opt_none, Pm.bind_assoc, Pm.bind_pure, f_bin, f_nil, f_cons, f_tup, f_lst, f_call, f_cb, f_if, f_of, f_ofv, f_tru, f_andB, f_orB, f_notB, f_and, f_or, f_not, f_neg, f_chain, f_sl, f_ono, f_oso, f_items, f_zip, f_enum, f_rng, f_lc, f_lcf, f_lc2, f_in, f_lz, f_app, f_ext, f_seti, f_isi, f_u2, f_u3, f_u4, i_tup, i_lst, z_tup, z_lst, zl_nil, zl_cons, en_tup, en_lst, en_nil, en_cons, x_nil, x_cons, x_map, x_pure, xf_nil, xf_cons, xc_nil, xc_cons, noEx_pure, o_add, o_sub, o_lt, o_le, o_gt, o_ge, o_eq, o_ne, o_mulL, o_mulR, o_div, o_mod, o_addT, o_addL, o_iadd, Pm.ix_tup, ix_lst, Pm.sl_tup, sl_lst, b_len_t, b_len_l, b_abs, b_int_i, b_int_b, b_sum, b_all, b_any, b_tup_l, b_tup_t, b_lst_l, b_lst_t, b_max2, b_max3, b_min2, b_min3, t_bl, t_int, t_tup, t_lst, t_non, a_app, a_ext, bl_bl, decide_true, decide_false, Bool.not_true, Bool.not_false, if_true, if_false, Bool.false_eq_true, for_nil, for_cons, ls_cons, ls_nil, at0, at1, at2, at3, at4, List.cons_append, List.nil_append, List.length_cons, List.length_nil, List.length_map, n_ot, isi_int', isi_bool', isi_tup', isi_str', dn_non, dn_int, dn_tup, dn_str, dn_bl, dnn_non, dnn_int, dnn_tup, dnn_str, dnn_bl, decide_eq_true_eq, fBin, fCons, fTup, fLst, fCall, fCB, fIf, fOf, fTru, fAndB, fOrB, fNotB, fAnd, fOr, fNot, fNeg, fChain, fSl, fOSo, fItems, fZip, fEnum, fRng, fLC, fLCf, fLC2, fIn, fLz, fApp, fExt, fSetI, fIsi]
  have hp0 : (0 : Int) < l.length := by cases l with | nil => exact absurd rfl hl | cons => simp only [List.length_cons]; omega
  refine Dr.then 2 (dr_draw hn hp0) (by omega) fun d ⟨r, e, h1, h2⟩ => ?_
  subst e
  obtain ⟨x, hx, q⟩ := atI_mem h1 h2
  rw [ix_lst, q]
  exact Dr.pure hx

abbrev C4 := Int × Int × Int × Int
def col (c : C4) : D := .tup [.int c.1, .int c.2.1, .int c.2.2.1, .int c.2.2.2]
def okc (c : C4) : Prop := (0 ≤ c.1 ∧ c.1 ≤ 255) ∧ (0 ≤ c.2.1 ∧ c.2.1 ≤ 255) ∧ (0 ≤ c.2.2.1 ∧ c.2.2.1 ≤ 255) ∧ 0 ≤ c.2.2.2 ∧ c.2.2.2 ≤ 255

end Pm
end
noncomputable section
namespace Pm
open PySem
def p__law_same (rec_ : Mf) (_law_got_ : D) (_law_due_ : D) : M D :=
  (fIf (fOf (fBin isND (M.pure _law_due_) (M.pure D.non)))
  (fBin isND (M.pure _law_got_) (M.pure D.non))
  (fIf (fTru (fIsi "bool" (M.pure _law_due_)))
  (fAnd (fIsi "bool" (M.pure _law_got_)) (fBin eqD (M.pure _law_got_) (M.pure _law_due_)))
  (fIf (fTru (fIsi "tuple" (M.pure _law_due_)))
  (fIf (fOrB (fNotB (fTru (fIsi "tuple" (M.pure _law_got_)))) (fOf (fBin neD (fCB lenF (fCons (M.pure _law_got_) fNil)) (fCB lenF (fCons (M.pure _law_due_) fNil)))))
  (M.pure (D.bl false))
  (fCB allF (fCons (fLC (fZip (fCons (M.pure _law_got_) (fCons (M.pure _law_due_) fNil))) fun it1_ => (fU2 it1_ fun _law_one_ _law_other_ => (fCall rec_ (fCons (M.pure _law_one_) (fCons (M.pure _law_other_) fNil))))) fNil)))
  (fIf (fTru (fIsi "str" (M.pure _law_due_)))
  (fAnd (fIsi "str" (M.pure _law_got_)) (fBin eqD (M.pure _law_got_) (M.pure _law_due_)))
  (fAnd (fIsi "int" (M.pure _law_got_)) (fAnd (fNot (fIsi "bool" (M.pure _law_got_))) (fBin eqD (M.pure _law_got_) (M.pure _law_due_))))))))
def b__law_same (rec_ : Mf) : Mf := fun ds => match ds with
  | [_law_got_, _law_due_] => p__law_same rec_ _law_got_ _law_due_
  | _ => M.bad
abbrev m__law_same : Nat → Mf := recF b__law_same

def pd : Nat → D → Bool
  | _, .non => true
  | _, .bl _ => true
  | _, .int _ => true
  | _, .str _ => true
  | n + 1, .tup l => l.all (pd n)
  | _, _ => false
theorem pd_tup (n : Nat) (l : List D) : pd (n + 1) (.tup l) = l.all (pd n) := by rw [pd]
theorem pd_int (n : Nat) (i : Int) : pd n (.int i) = true := by unfold pd; rfl
theorem pd_tup0 (l : List D) : pd 0 (.tup l) = false := by rw [pd] <;> (intros; contradiction)
theorem eq_bl (b : Bool) : eqD (.bl b) (.bl b) = some (.bl true) := by unfold eqD; rw [if_pos (.inl rfl)]; unfold deq; simp
theorem eq_str (x : Str) : eqD (.str x) (.str x) = some (.bl true) := by unfold eqD; rw [if_pos (.inl rfl)]; unfold deq; simp
theorem zipL_self (l : List D) : zipL l l = l.map fun d => .tup [d, d] := by
  induction l with
  | nil => rfl
  | cons d l ih => simp [zipL, ih]
theorem blsOf_rep (n : Nat) : blsOf (List.replicate n (.bl true)) = some (List.replicate n true) := by
  induction n with
  | zero => rfl
  | succ n ih => simp [List.replicate_succ, blsOf, ih]
theorem all_rep (n : Nat) : (List.replicate n true).all id = true := by
  induction n with
  | zero => rfl
  | succ n ih => simp [List.replicate_succ, ih]
theorem same_ok : ∀ (n : Nat) (d : D), pd n d = true → m__law_same (n + 1) [d, d] = M.pure (.bl true)
  | n, d, h => by
    show p__law_same (recF b__law_same n) d d = _
    unfold p__law_same
    cases d with
    | non => simp only [in_int, ng_int, mx_nil, mx_cons, o_ne_self, o_eq_self, ls_lst, Pm.pure_bind, bad_bind, raise_bind, opt_some, opt_none, Pm.bind_assoc, Pm.bind_pure, f_bin, f_nil, f_cons, f_tup, f_lst, f_call, f_cb, f_if, f_of, f_ofv, f_tru, f_andB, f_orB, f_notB, f_and, f_or, f_not, f_neg, f_chain, f_sl, f_ono, f_oso, f_items, f_zip, f_enum, f_rng, f_lc, f_lcf, f_lc2, f_in, f_lz, f_app, f_ext, f_seti, f_isi, f_u2, f_u3, f_u4, i_tup, i_lst, z_tup, z_lst, zl_nil, zl_cons, en_tup, en_lst, en_nil, en_cons, x_nil, x_cons, x_map, x_pure, xf_nil, xf_cons, xc_nil, xc_cons, noEx_pure, o_add, o_sub, o_lt, o_le, o_gt, o_ge, o_eq, o_ne, o_mulL, o_mulR, o_div, o_mod, o_addT, o_addL, o_iadd, Pm.ix_tup, ix_lst, Pm.sl_tup, sl_lst, b_len_t, b_len_l, b_abs, b_int_i, b_int_b, b_sum, b_all, b_any, b_tup_l, b_tup_t, b_lst_l, b_lst_t, b_max2, b_max3, b_min2, b_min3, t_bl, t_int, t_tup, t_lst, t_non, a_app, a_ext, bl_bl, decide_true, decide_false, Bool.not_true, Bool.not_false, if_true, if_false, Bool.false_eq_true, for_nil, for_cons, ls_cons, ls_nil, at0, at1, at2, at3, at4, List.cons_append, List.nil_append, List.length_cons, List.length_nil, List.length_map, n_ot, isi_int', isi_bool', isi_tup', isi_str', dn_non, dn_int, dn_tup, dn_str, dn_bl, dnn_non, dnn_int, dnn_tup, dnn_str, dnn_bl, decide_eq_true_eq, fBin, fCons, fTup, fLst, fCall, fCB, fIf, fOf, fTru, fAndB, fOrB, fNotB, fAnd, fOr, fNot, fNeg, fChain, fSl, fOSo, fItems, fZip, fEnum, fRng, fLC, fLCf, fLC2, fIn, fLz, fApp, fExt, fSetI, fIsi]
    | bl b => simp only [in_int, ng_int, mx_nil, mx_cons, o_ne_self, o_eq_self, ls_lst, Pm.pure_bind, bad_bind, raise_bind, opt_some, opt_none, Pm.bind_assoc, Pm.bind_pure, f_bin, f_nil, f_cons, f_tup, f_lst, f_call, f_cb, f_if, f_of, f_ofv, f_tru, f_andB, f_orB, f_notB, f_and, f_or, f_not, f_neg, f_chain, f_sl, f_ono, f_oso, f_items, f_zip, f_enum, f_rng, f_lc, f_lcf, f_lc2, f_in, f_lz, f_app, f_ext, f_seti, f_isi, f_u2, f_u3, f_u4, i_tup, i_lst, z_tup, z_lst, zl_nil, zl_cons, en_tup, en_lst, en_nil, en_cons, x_nil, x_cons, x_map, x_pure, xf_nil, xf_cons, xc_nil, xc_cons, noEx_pure, o_add, o_sub, o_lt, o_le, o_gt, o_ge, o_eq, o_ne, o_mulL, o_mulR, o_div, o_mod, o_addT, o_addL, o_iadd, Pm.ix_tup, ix_lst, Pm.sl_tup, sl_lst, b_len_t, b_len_l, b_abs, b_int_i, b_int_b, b_sum, b_all, b_any, b_tup_l, b_tup_t, b_lst_l, b_lst_t, b_max2, b_max3, b_min2, b_min3, t_bl, t_int, t_tup, t_lst, t_non, a_app, a_ext, bl_bl, decide_true, decide_false, Bool.not_true, Bool.not_false, if_true, if_false, Bool.false_eq_true, for_nil, for_cons, ls_cons, ls_nil, at0, at1, at2, at3, at4, List.cons_append, List.nil_append, List.length_cons, List.length_nil, List.length_map, n_ot, isi_int', isi_bool', isi_tup', isi_str', dn_non, dn_int, dn_tup, dn_str, dn_bl, dnn_non, dnn_int, dnn_tup, dnn_str, dnn_bl, decide_eq_true_eq, fBin, fCons, fTup, fLst, fCall, fCB, fIf, fOf, fTru, fAndB, fOrB, fNotB, fAnd, fOr, fNot, fNeg, fChain, fSl, fOSo, fItems, fZip, fEnum, fRng, fLC, fLCf, fLC2, fIn, fLz, fApp, fExt, fSetI, fIsi, isi_bool (d := .bl b) rfl, isiBool, eq_bl]
    | int i => simp only [in_int, ng_int, mx_nil, mx_cons, o_ne_self, o_eq_self, ls_lst, Pm.pure_bind, bad_bind, raise_bind, opt_some, opt_none, Pm.bind_assoc, Pm.bind_pure, f_bin, f_nil, f_cons, f_tup, f_lst, f_call, f_cb, f_if, f_of, f_ofv, f_tru, f_andB, f_orB, f_notB, f_and, f_or, f_not, f_neg, f_chain, f_sl, f_ono, f_oso, f_items, f_zip, f_enum, f_rng, f_lc, f_lcf, f_lc2, f_in, f_lz, f_app, f_ext, f_seti, f_isi, f_u2, f_u3, f_u4, i_tup, i_lst, z_tup, z_lst, zl_nil, zl_cons, en_tup, en_lst, en_nil, en_cons, x_nil, x_cons, x_map, x_pure, xf_nil, xf_cons, xc_nil, xc_cons, noEx_pure, o_add, o_sub, o_lt, o_le, o_gt, o_ge, o_eq, o_ne, o_mulL, o_mulR, o_div, o_mod, o_addT, o_addL, o_iadd, Pm.ix_tup, ix_lst, Pm.sl_tup, sl_lst, b_len_t, b_len_l, b_abs, b_int_i, b_int_b, b_sum, b_all, b_any, b_tup_l, b_tup_t, b_lst_l, b_lst_t, b_max2, b_max3, b_min2, b_min3, t_bl, t_int, t_tup, t_lst, t_non, a_app, a_ext, bl_bl, decide_true, decide_false, Bool.not_true, Bool.not_false, if_true, if_false, Bool.false_eq_true, for_nil, for_cons, ls_cons, ls_nil, at0, at1, at2, at3, at4, List.cons_append, List.nil_append, List.length_cons, List.length_nil, List.length_map, n_ot, isi_int', isi_bool', isi_tup', isi_str', dn_non, dn_int, dn_tup, dn_str, dn_bl, dnn_non, dnn_int, dnn_tup, dnn_str, dnn_bl, decide_eq_true_eq, fBin, fCons, fTup, fLst, fCall, fCB, fIf, fOf, fTru, fAndB, fOrB, fNotB, fAnd, fOr, fNot, fNeg, fChain, fSl, fOSo, fItems, fZip, fEnum, fRng, fLC, fLCf, fLC2, fIn, fLz, fApp, fExt, fSetI, fIsi, isi_bool (d := .int i) rfl, isi_tup (d := .int i) rfl, isi_str (d := .int i) rfl, isi_int (d := .int i) rfl, isiBool, isiTup, isiStr, isiInt, beq_self_eq_true]
    | str x => simp only [in_int, ng_int, mx_nil, mx_cons, o_ne_self, o_eq_self, ls_lst, Pm.pure_bind, bad_bind, raise_bind, opt_some, opt_none, Pm.bind_assoc, Pm.bind_pure, f_bin, f_nil, f_cons, f_tup, f_lst, f_call, f_cb, f_if, f_of, f_ofv, f_tru, f_andB, f_orB, f_notB, f_and, f_or, f_not, f_neg, f_chain, f_sl, f_ono, f_oso, f_items, f_zip, f_enum, f_rng, f_lc, f_lcf, f_lc2, f_in, f_lz, f_app, f_ext, f_seti, f_isi, f_u2, f_u3, f_u4, i_tup, i_lst, z_tup, z_lst, zl_nil, zl_cons, en_tup, en_lst, en_nil, en_cons, x_nil, x_cons, x_map, x_pure, xf_nil, xf_cons, xc_nil, xc_cons, noEx_pure, o_add, o_sub, o_lt, o_le, o_gt, o_ge, o_eq, o_ne, o_mulL, o_mulR, o_div, o_mod, o_addT, o_addL, o_iadd, Pm.ix_tup, ix_lst, Pm.sl_tup, sl_lst, b_len_t, b_len_l, b_abs, b_int_i, b_int_b, b_sum, b_all, b_any, b_tup_l, b_tup_t, b_lst_l, b_lst_t, b_max2, b_max3, b_min2, b_min3, t_bl, t_int, t_tup, t_lst, t_non, a_app, a_ext, bl_bl, decide_true, decide_false, Bool.not_true, Bool.not_false, if_true, if_false, Bool.false_eq_true, for_nil, for_cons, ls_cons, ls_nil, at0, at1, at2, at3, at4, List.cons_append, List.nil_append, List.length_cons, List.length_nil, List.length_map, n_ot, isi_int', isi_bool', isi_tup', isi_str', dn_non, dn_int, dn_tup, dn_str, dn_bl, dnn_non, dnn_int, dnn_tup, dnn_str, dnn_bl, decide_eq_true_eq, fBin, fCons, fTup, fLst, fCall, fCB, fIf, fOf, fTru, fAndB, fOrB, fNotB, fAnd, fOr, fNot, fNeg, fChain, fSl, fOSo, fItems, fZip, fEnum, fRng, fLC, fLCf, fLC2, fIn, fLz, fApp, fExt, fSetI, fIsi, isi_bool (d := .str x) rfl, isi_tup (d := .str x) rfl, isi_str (d := .str x) rfl, isiBool, isiTup, isiStr, eq_str]
    | tup l =>
      cases n with
      | zero => rw [pd_tup0] at h; cases h
      | succ n =>
        rw [pd_tup, List.all_eq_true] at h
        have hm : mapX (fun x => recF b__law_same (n + 1) [x, x]) l = M.pure (l.map fun _ => .bl true) := mapX_of fun x hx => same_ok n x (h x hx)
        simp only [in_int, ng_int, mx_nil, mx_cons, o_ne_self, o_eq_self, ls_lst, Pm.pure_bind, bad_bind, raise_bind, opt_some, opt_none, Pm.bind_assoc, Pm.bind_pure, f_bin, f_nil, f_cons, f_tup, f_lst, f_call, f_cb, f_if, f_of, f_ofv, f_tru, f_andB, f_orB, f_notB, f_and, f_or, f_not, f_neg, f_chain, f_sl, f_ono, f_oso, f_items, f_zip, f_enum, f_rng, f_lc, f_lcf, f_lc2, f_in, f_lz, f_app, f_ext, f_seti, f_isi, f_u2, f_u3, f_u4, i_tup, i_lst, z_tup, z_lst, zl_nil, zl_cons, en_tup, en_lst, en_nil, en_cons, x_nil, x_cons, x_map, x_pure, xf_nil, xf_cons, xc_nil, xc_cons, noEx_pure, o_add, o_sub, o_lt, o_le, o_gt, o_ge, o_eq, o_ne, o_mulL, o_mulR, o_div, o_mod, o_addT, o_addL, o_iadd, Pm.ix_tup, ix_lst, Pm.sl_tup, sl_lst, b_len_t, b_len_l, b_abs, b_int_i, b_int_b, b_sum, b_all, b_any, b_tup_l, b_tup_t, b_lst_l, b_lst_t, b_max2, b_max3, b_min2, b_min3, t_bl, t_int, t_tup, t_lst, t_non, a_app, a_ext, bl_bl, decide_true, decide_false, Bool.not_true, Bool.not_false, if_true, if_false, Bool.false_eq_true, for_nil, for_cons, ls_cons, ls_nil, at0, at1, at2, at3, at4, List.cons_append, List.nil_append, List.length_cons, List.length_nil, List.length_map, n_ot, isi_int', isi_bool', isi_tup', isi_str', dn_non, dn_int, dn_tup, dn_str, dn_bl, dnn_non, dnn_int, dnn_tup, dnn_str, dnn_bl, decide_eq_true_eq, fBin, fCons, fTup, fLst, fCall, fCB, fIf, fOf, fTru, fAndB, fOrB, fNotB, fAnd, fOr, fNot, fNeg, fChain, fSl, fOSo, fItems, fZip, fEnum, fRng, fLC, fLCf, fLC2, fIn, fLz, fApp, fExt, fSetI, fIsi, isi_bool (d := .tup l) rfl, isi_tup (d := .tup l) rfl, isiBool, isiTup, zipL_self, beq_self_eq_true]
        rw [hm]
        simp only [in_int, ng_int, mx_nil, mx_cons, o_ne_self, o_eq_self, ls_lst, Pm.pure_bind, bad_bind, raise_bind, opt_some, opt_none, Pm.bind_assoc, Pm.bind_pure, f_bin, f_nil, f_cons, f_tup, f_lst, f_call, f_cb, f_if, f_of, f_ofv, f_tru, f_andB, f_orB, f_notB, f_and, f_or, f_not, f_neg, f_chain, f_sl, f_ono, f_oso, f_items, f_zip, f_enum, f_rng, f_lc, f_lcf, f_lc2, f_in, f_lz, f_app, f_ext, f_seti, f_isi, f_u2, f_u3, f_u4, i_tup, i_lst, z_tup, z_lst, zl_nil, zl_cons, en_tup, en_lst, en_nil, en_cons, x_nil, x_cons, x_map, x_pure, xf_nil, xf_cons, xc_nil, xc_cons, noEx_pure, o_add, o_sub, o_lt, o_le, o_gt, o_ge, o_eq, o_ne, o_mulL, o_mulR, o_div, o_mod, o_addT, o_addL, o_iadd, Pm.ix_tup, ix_lst, Pm.sl_tup, sl_lst, b_len_t, b_len_l, b_abs, b_int_i, b_int_b, b_sum, b_all, b_any, b_tup_l, b_tup_t, b_lst_l, b_lst_t, b_max2, b_max3, b_min2, b_min3, t_bl, t_int, t_tup, t_lst, t_non, a_app, a_ext, bl_bl, decide_true, decide_false, Bool.not_true, Bool.not_false, if_true, if_false, Bool.false_eq_true, for_nil, for_cons, ls_cons, ls_nil, at0, at1, at2, at3, at4, List.cons_append, List.nil_append, List.length_cons, List.length_nil, List.length_map, n_ot, isi_int', isi_bool', isi_tup', isi_str', dn_non, dn_int, dn_tup, dn_str, dn_bl, dnn_non, dnn_int, dnn_tup, dnn_str, dnn_bl, decide_eq_true_eq, fBin, fCons, fTup, fLst, fCall, fCB, fIf, fOf, fTru, fAndB, fOrB, fNotB, fAnd, fOr, fNot, fNeg, fChain, fSl, fOSo, fItems, fZip, fEnum, fRng, fLC, fLCf, fLC2, fIn, fLz, fApp, fExt, fSetI, fIsi, List.map_const', blsOf_rep, Option.map_some, all_rep]
    | _ => cases n <;> simp [pd] at h
theorem same8 {d : D} (h : pd 7 d = true) : m__law_same 8 [d, d] = M.pure (.bl true) := same_ok 7 d h


end Pm
end
noncomputable section
namespace Pm
open PySem

section
variable {σ τ α : Type}
end

end Pm
end
noncomputable section
namespace Pm
open PySem

end Pm
end
noncomputable section
namespace Pm
open PySem
theorem ixT {l : List D} (i : Int) : fBin ixD (M.pure (.tup l)) (M.pure (.int i)) = M.opt (L2.atI l i) := rfl




end Pm
end
noncomputable section
namespace Pm
open PySem



end Pm
end
noncomputable section
namespace Pm
open PySem

theorem call1 (m : Mf) (a : D) : fCall m (fCons (M.pure a) fNil) = m [a] := rfl
theorem call2 (m : Mf) (a b : D) : fCall m (fCons (M.pure a) (fCons (M.pure b) fNil)) = m [a, b] := rfl
theorem call3 (m : Mf) (a b c : D) : fCall m (fCons (M.pure a) (fCons (M.pure b) (fCons (M.pure c) fNil))) = m [a, b, c] := rfl
section
variable {α : Type} {w h : Nat} {c c' : Nat → Nat → α}
end

section
variable {L : Lams} {told : D} {F : C4 → C4 → C4} {w h : Nat} {c0 : Nat → Nat → C4} {X Y : Int}
def okG (w h : Nat) (c : Nat → Nat → C4) : Prop := ∀ x y, x < w → y < h → okc (c x y)
end
section
variable {L : Lams} {told : D} {F : C4 → C4 → C4} {w h w2 h2 : Nat} {c c2 : Nat → Nat → C4} {X Y : Int}
end
end Pm
end
noncomputable section
namespace Pm
open PySem

section
variable {L : Lams} {k : Nat} {w h w2 h2 : Nat} {c c2 : Nat → Nat → C4} {X Y : Int}
end

end Pm
end
noncomputable section
namespace Pm
open PySem
def p_is_whole (thing_ : D) : M D :=
  (fAnd (fIsi "int" (M.pure thing_)) (fNot (fIsi "bool" (M.pure thing_))))
def m_is_whole : Mf := fun ds => match ds with
  | [thing_] => p_is_whole thing_
  | _ => M.bad




end Pm
end
noncomputable section
namespace Pm
open PySem
def l0__law_drawn_font (_law_script_ : D) (_law_town_ : D) (_law_height_ : D) (_law_sign_ : D) (_law_signs_ : D) (k0_ : D → M D) : M D :=
  (M.bind (fBin addD (M.pure (D.int 1)) (fCall m__law_draw (fCons (M.pure _law_script_) (fCons (M.pure _law_town_) (fCons (M.pure (D.int 3)) fNil))))) fun _law_wide_here_ =>
  (M.bind (fLC (fRng (fCons (M.pure _law_height_) fNil)) fun _law_i_ => (fJoin (M.pure (D.str "")) (fLC (fRng (fCons (M.pure _law_wide_here_) fNil)) fun _law_j_ => (fCall m__law_pick (fCons (M.pure _law_script_) (fCons (M.pure _law_town_) (fCons (fLst (fCons (M.pure (D.str "#")) (fCons (M.pure (D.str ".")) fNil))) fNil))))))) fun _law_lots_ =>
  (M.bind (fApp _law_signs_ (fTup (fCons (M.pure _law_sign_) (fCons (fCB tupF (fCons (M.pure _law_lots_) fNil)) fNil)))) fun _law_signs_ =>
  (k0_ _law_signs_))))
def p__law_drawn_font (_law_script_ : D) (_law_town_ : D) : M D :=
  (M.bind (fBin addD (M.pure (D.int 1)) (fCall m__law_draw (fCons (M.pure _law_script_) (fCons (M.pure _law_town_) (fCons (M.pure (D.int 3)) fNil))))) fun _law_height_ => (M.bind (fLst fNil) fun _law_signs_ => 
  (M.bind (fItems (M.pure (D.str " abi"))) fun xs1_ => fFor (l0__law_drawn_font _law_script_ _law_town_ _law_height_) xs1_ _law_signs_ fun _law_signs_ =>
  (fTup (fCons (M.pure _law_height_) (fCons (fCall m__law_draw (fCons (M.pure _law_script_) (fCons (M.pure _law_town_) (fCons (M.pure (D.int 3)) fNil)))) (fCons (fCB tupKF (fCons (M.pure _law_signs_) fNil)) fNil)))))))
def m__law_drawn_font : Mf := fun ds => match ds with
  | [_law_script_, _law_town_] => p__law_drawn_font _law_script_ _law_town_
  | _ => M.bad
def l0__law_drawn_text (_law_script_ : D) (_law_town_ : D) (_law_j_ : D) (_law_found_ : D) (k0_ : D → M D) : M D :=
  (M.bind (fBin addD (M.pure _law_found_) (fCall m__law_pick (fCons (M.pure _law_script_) (fCons (M.pure _law_town_) (fCons (fLst (fCons (M.pure (D.str "a")) (fCons (M.pure (D.str "b")) (fCons (M.pure (D.str "i")) (fCons (M.pure (D.str "ab")) (fCons (M.pure (D.str "ia")) (fCons (M.pure (D.str " ")) (fCons (M.pure (D.str " ")) (fCons (M.pure (D.str "\n")) fNil))))))))) fNil))))) fun _law_found_ =>
  (k0_ _law_found_))
def p__law_drawn_text (_law_script_ : D) (_law_town_ : D) (_law_many_ : D) : M D :=
  (M.bind (M.pure (D.str "")) fun _law_found_ =>
  (M.bind (fRng (fCons (fCall m__law_draw (fCons (M.pure _law_script_) (fCons (M.pure _law_town_) (fCons (M.pure _law_many_) fNil)))) fNil)) fun xs1_ => fFor (l0__law_drawn_text _law_script_ _law_town_) xs1_ _law_found_ fun _law_found_ =>
  (M.pure _law_found_)))
def m__law_drawn_text : Mf := fun ds => match ds with
  | [_law_script_, _law_town_, _law_many_] => p__law_drawn_text _law_script_ _law_town_ _law_many_
  | _ => M.bad
def p__law_wide (_law_font_ : D) (_law_text_ : D) : M D :=
  (M.bind (fDictK (fBin ixD (M.pure _law_font_) (M.pure (D.int 2)))) fun _law_table_ =>
  (M.bind (fLC (fItems (M.pure _law_text_)) fun _law_sign_ => (fCB lenF (fCons (fBin ixD (fBin dgD (M.pure _law_table_) (M.pure _law_sign_)) (M.pure (D.int 0))) fNil))) fun _law_widths_ =>
  (fIf (fTru (M.pure _law_widths_)) (fBin addD (fCB sumF (fCons (M.pure _law_widths_) fNil)) (fBin mulD (fBin ixD (M.pure _law_font_) (M.pure (D.int 1))) (fBin subD (fCB lenF (fCons (M.pure _law_widths_) fNil)) (M.pure (D.int 1))))) (M.pure (D.int 0)))))
def m__law_wide : Mf := fun ds => match ds with
  | [_law_font_, _law_text_] => p__law_wide _law_font_ _law_text_
  | _ => M.bad
def l0_rows_for (sign_ : D) (it1_ : D) (st_ : Unit) (k0_ : Unit → M D) : M D :=
  (fU2 it1_ fun name_ rows_ => (fIf (fOf (fBin eqD (M.pure name_) (M.pure sign_)))
  (M.pure rows_)
  (k0_ ())))
def p_rows_for (font_ : D) (sign_ : D) : M D :=
  (M.bind (fItems (fBin ixD (M.pure font_) (M.pure (D.int 2)))) fun xs2_ => fFor (l0_rows_for sign_) xs2_ () fun _ =>
  (M.raise "NoSign"))
def m_rows_for : Mf := fun ds => match ds with
  | [font_, sign_] => p_rows_for font_ sign_
  | _ => M.bad
def p_measured (font_ : D) (text_ : D) : M D :=
  (M.bind (fLCX (fItems (M.pure text_)) fun sign_ => (fCB lenF (fCons (fBin ixD (fCall m_rows_for (fCons (M.pure font_) (fCons (M.pure sign_) fNil))) (M.pure (D.int 0))) fNil))) fun widths_ =>
  (fBin addD (fCB sumF (fCons (M.pure widths_) fNil)) (fBin mulD (fBin ixD (M.pure font_) (M.pure (D.int 1))) (fCB maxF (fCons (M.pure (D.int 0)) (fCons (fBin subD (fCB lenF (fCons (M.pure widths_) fNil)) (M.pure (D.int 1))) fNil))))))
def m_measured : Mf := fun ds => match ds with
  | [font_, text_] => p_measured font_ text_
  | _ => M.bad
end Pm
namespace Rl
open PySem Pm

abbrev tX (l : List Nat) : D := .str (SX.S l)
def glD (c : Nat) (rs : List (List Nat)) : D := .tup [tX [c], .tup (rs.map tX)]
def fontD (h g : Nat) (R : Nat → List (List Nat)) : D := .tup [.int h, .int g, .tup [glD 32 (R 32), glD 97 (R 97), glD 98 (R 98), glD 105 (R 105)]]
def sg : List Nat := [32, 97, 98, 105]
def wd (R : Nat → List (List Nat)) (c : Nat) : Nat := ((R c).headD []).length
structure okF (h g : Nat) (R : Nat → List (List Nat)) : Prop where
  h1 : 1 ≤ h
  h3 : h ≤ 3
  g2 : g ≤ 2
  len : ∀ c ∈ sg, (R c).length = h
  row : ∀ c ∈ sg, ∀ r ∈ R c, r.length = wd R c
  w1 : ∀ c ∈ sg, 1 ≤ wd R c
  w3 : ∀ c ∈ sg, wd R c ≤ 3
  ink : ∀ c ∈ sg, ∀ r ∈ R c, ∀ x ∈ r, x = 35 ∨ x = 46
theorem eq_S (a b : Nat) : eqD (tX [a]) (tX [b]) = if a < 1114112 ∧ b < 1114112 then some (.bl (a == b)) else eqD (tX [a]) (tX [b]) := by
  split
  · rename_i h
    have ok : ∀ a, a < 1114112 → okd 40 (tX [a]) = true := fun a h => by
      show PyData.strOk _ = true
      unfold PyData.strOk
      simp; exact h
    rw [o_eqT (ok a h.1) (ok b h.2)]
    have : deq (tX [a]) (tX [b]) = (SX.S [a] == SX.S [b]) := by unfold deq; rfl
    rw [this, SX.S_beq]
    simp
  · rfl
theorem eq_c {a b : Nat} (ha : a < 1114112) (hb : b < 1114112) : eqD (tX [a]) (tX [b]) = some (.bl (a == b)) := by rw [eq_S, if_pos ⟨ha, hb⟩]
theorem rows_for {h g : Nat} {R : Nat → List (List Nat)} {c : Nat} (hc : c ∈ sg) : m_rows_for [fontD h g R, tX [c]] = M.pure (.tup ((R c).map tX)) := by
  show p_rows_for _ _ = _
  unfold p_rows_for l0_rows_for fontD glD
  have e (a : Nat) (ha : a ∈ sg) (b : Nat) (hb : b ∈ sg) : eqD (tX [a]) (tX [b]) = some (.bl (a == b)) := eq_c (by simp [sg] at ha; omega) (by simp [sg] at hb; omega)
  have m1 : 32 ∈ sg := by simp [sg]
  have m2 : 97 ∈ sg := by simp [sg]
  have m3 : 98 ∈ sg := by simp [sg]
  have m4 : 105 ∈ sg := by simp [sg]
  simp only [in_int, ng_int, mx_nil, mx_cons, o_ne_self, o_eq_self, ls_lst, Pm.pure_bind, bad_bind, raise_bind, opt_some, opt_none, Pm.bind_assoc, Pm.bind_pure, f_bin, f_nil, f_cons, f_tup, f_lst, f_call, f_cb, f_if, f_of, f_ofv, f_tru, f_andB, f_orB, f_notB, f_and, f_or, f_not, f_neg, f_chain, f_sl, f_ono, f_oso, f_items, f_zip, f_enum, f_rng, f_lc, f_lcf, f_lc2, f_in, f_lz, f_app, f_ext, f_seti, f_isi, f_u2, f_u3, f_u4, i_tup, i_lst, z_tup, z_lst, zl_nil, zl_cons, en_tup, en_lst, en_nil, en_cons, x_nil, x_cons, x_map, x_pure, xf_nil, xf_cons, xc_nil, xc_cons, noEx_pure, o_add, o_sub, o_lt, o_le, o_gt, o_ge, o_eq, o_ne, o_mulL, o_mulR, o_div, o_mod, o_addT, o_addL, o_iadd, Pm.ix_tup, ix_lst, Pm.sl_tup, sl_lst, b_len_t, b_len_l, b_abs, b_int_i, b_int_b, b_sum, b_all, b_any, b_tup_l, b_tup_t, b_lst_l, b_lst_t, b_max2, b_max3, b_min2, b_min3, t_bl, t_int, t_tup, t_lst, t_non, a_app, a_ext, bl_bl, decide_true, decide_false, Bool.not_true, Bool.not_false, if_true, if_false, Bool.false_eq_true, for_nil, for_cons, ls_cons, ls_nil, at0, at1, at2, at3, at4, List.cons_append, List.nil_append, List.length_cons, List.length_nil, List.length_map, n_ot, isi_int', isi_bool', isi_tup', isi_str', dn_non, dn_int, dn_tup, dn_str, dn_bl, dnn_non, dnn_int, dnn_tup, dnn_str, dnn_bl, decide_eq_true_eq, fBin, fCons, fTup, fLst, fCall, fCB, fIf, fOf, fTru, fAndB, fOrB, fNotB, fAnd, fOr, fNot, fNeg, fChain, fSl, fOSo, fItems, fZip, fEnum, fRng, fLC, fLCf, fLC2, fIn, fLz, fApp, fExt, fSetI, fIsi, e _ m1 _ hc, e _ m2 _ hc, e _ m3 _ hc, e _ m4 _ hc]
  simp only [sg, List.mem_cons, List.not_mem_nil, or_false] at hc
  rcases hc with rfl | rfl | rfl | rfl <;> rfl
theorem items_S {l : List Nat} (h : l.length ≤ 1000) : itemsD (tX l) = some (l.map fun c => tX [c]) := by
  have hz : sizeLine = 16777216 := sizeIs
  show (if (SX.S l).cps.toList.length ≤ sizeLine then _ else _) = _
  rw [if_pos (by show l.length ≤ _; omega)]
theorem len_S {l : List Nat} (h : l.length ≤ 1000) : lenF [tX l] = some (.int l.length) := by
  have hz : sizeLine = 16777216 := sizeIs
  show (if (SX.S l).length ≤ sizeLine then _ else _) = _
  rw [SX.S_len, if_pos (by omega)]
theorem add_S {a b : List Nat} (h : a.length + b.length ≤ 1000) : addD (tX a) (tX b) = some (tX (a ++ b)) := by
  have hz : sizeLine = 16777216 := sizeIs
  show (if (SX.S a).length + (SX.S b).length ≤ sizeLine then _ else _) = _
  rw [SX.S_len, SX.S_len, if_pos (by omega), SX.S_cat]
def meas (g : Nat) (R : Nat → List (List Nat)) (l : List Nat) : Nat := (l.map (wd R)).sum + g * (l.length - 1)
theorem row0 {h g : Nat} {R : Nat → List (List Nat)} (ok : okF h g R) {c : Nat} (hc : c ∈ sg) : ∃ r rs, R c = r :: rs ∧ r.length = wd R c := by
  have h1 := ok.len c hc
  have h2 := ok.h1
  cases q : R c with
  | nil => rw [q] at h1; simp at h1; omega
  | cons r rs => exact ⟨r, rs, rfl, ok.row c hc r (by rw [q]; simp)⟩

def fontK (h g : Nat) (R : Nat → List (List Nat)) : D := .tup [.int h, .int g, .kt [glD 32 (R 32), glD 97 (R 97), glD 98 (R 98), glD 105 (R 105)]]
theorem unk_font (h g : Nat) (R : Nat → List (List Nat)) : fUnk (M.pure (fontK h g R)) = M.pure (fontD h g R) := rfl

theorem f_lcX (l : List D) (f : D → M D) : fLCX (M.pure l) f = (fMapX f l).bind fun r => M.pure (.lst r) := rfl
theorem mapX_go {f : D → M D} {α : Type} {E : α → D} {g : α → D} : ∀ {l : List α}, (∀ x ∈ l, f (E x) = M.pure (g x)) → fMapX f (l.map E) = M.pure (l.map g)
  | [], _ => rfl
  | x :: l, h => by
    rw [List.map_cons, List.map_cons]
    show (f (E x)).bind _ = _
    rw [h x List.mem_cons_self, Pm.pure_bind, mapX_go fun y hy => h y (List.mem_cons_of_mem _ hy), Pm.pure_bind]
theorem mapX_ex {f : D → M D} {c : Str} {x : D} {r : List D} (h : f x = M.raise c) : fMapX f (x :: r) = M.raise c := by
  show (f x).bind _ = _
  rw [h]; rfl
theorem sum_cast (l : List Nat) : (l.map fun (n : Nat) => (n : Int)).sum = ((l.sum : Nat) : Int) := by
  induction l with
  | nil => rfl
  | cons a l ih => rw [List.map_cons, List.sum_cons, ih, List.sum_cons]; push_cast; rfl

theorem measured_eq {h g : Nat} {R : Nat → List (List Nat)} (ok : okF h g R) {l : List Nat} (hl : l.length ≤ 100) (hm : ∀ c ∈ l, c ∈ sg) : m_measured [fontD h g R, tX l] = M.pure (.int (meas g R l)) := by
  show p_measured _ _ = _
  unfold p_measured
  have e1 : fLCX (fItems (M.pure (tX l))) (fun sign_ => (fCB lenF (fCons (fBin ixD (fCall m_rows_for (fCons (M.pure (fontD h g R)) (fCons (M.pure sign_) fNil))) (M.pure (D.int 0))) fNil))) = M.pure (.lst (l.map fun c => .int (wd R c : Nat))) := by
    rw [f_items, items_S (by omega), opt_some, f_lcX, mapX_go (g := fun c => .int (wd R c : Nat))]
    · rfl
    · intro c hc
      obtain ⟨r, rs, e, e2⟩ := row0 ok (hm c hc)
      rw [call2, rows_for (hm c hc), e, List.map_cons, f_bin, Pm.ix_tup, at0, opt_some, f_nil, f_cons, f_cb, len_S (by rw [e2]; have := ok.w3 c (hm c hc); omega), opt_some, e2]
  have e3 : ixD (fontD h g R) (.int 1) = some (.int g) := rfl
  have e4 : (l.map fun c => ((wd R c : Nat) : Int)) = ((l.map (wd R)).map fun (n : Nat) => (n : Int)) := by rw [List.map_map]; rfl
  rw [e1, Pm.pure_bind]
  clear e1
  generalize fontD h g R = F at e3 ⊢
  have hg := ok.g2
  have e5 : max 0 ((l.length : Int) - 1) = ((l.length - 1 : Nat) : Int) := by omega
  have a1 : fCB sumF (fCons (M.pure (D.lst (l.map fun c => .int (wd R c : Nat)))) fNil) = M.pure (.int ((l.map (wd R)).sum : Nat)) := by
    rw [f_nil, f_cons, f_cb, b_sum, ints_of (fun c => ((wd R c : Nat) : Int)), Option.map_some, opt_some, e4, sum_cast]
  have a2 : fCB lenF (fCons (M.pure (D.lst (l.map fun c => .int (wd R c : Nat)))) fNil) = M.pure (.int (l.length : Nat)) := by
    rw [f_nil, f_cons, f_cb, b_len_l, opt_some, List.length_map]
  rw [a1, a2, f_bin, e3, opt_some, f_bin, o_sub, opt_some, f_nil, f_cons, f_cons, f_cb, b_max2, opt_some, e5, f_bin, o_mulL (by omega) (by omega), opt_some, f_bin, o_add, opt_some]
  rfl
theorem rows_bad {h g : Nat} {R : Nat → List (List Nat)} {c : Nat} (hc : c < 1114112) (hn : c ∉ sg) : m_rows_for [fontD h g R, tX [c]] = M.raise "NoSign" := by
  simp only [sg, List.mem_cons, List.not_mem_nil, or_false, not_or] at hn
  obtain ⟨n1, n2, n3, n4⟩ := hn
  show p_rows_for _ _ = _
  unfold p_rows_for l0_rows_for fontD glD
  have f1 : ((32 : Nat) == c) = false := by simp; omega
  have f2 : ((97 : Nat) == c) = false := by simp; omega
  have f3 : ((98 : Nat) == c) = false := by simp; omega
  have f4 : ((105 : Nat) == c) = false := by simp; omega
  simp only [in_int, ng_int, mx_nil, mx_cons, o_ne_self, o_eq_self, ls_lst, Pm.pure_bind, bad_bind, raise_bind, opt_some, opt_none, Pm.bind_assoc, Pm.bind_pure, f_bin, f_nil, f_cons, f_tup, f_lst, f_call, f_cb, f_if, f_of, f_ofv, f_tru, f_andB, f_orB, f_notB, f_and, f_or, f_not, f_neg, f_chain, f_sl, f_ono, f_oso, f_items, f_zip, f_enum, f_rng, f_lc, f_lcf, f_lc2, f_in, f_lz, f_app, f_ext, f_seti, f_isi, f_u2, f_u3, f_u4, i_tup, i_lst, z_tup, z_lst, zl_nil, zl_cons, en_tup, en_lst, en_nil, en_cons, x_nil, x_cons, x_map, x_pure, xf_nil, xf_cons, xc_nil, xc_cons, noEx_pure, o_add, o_sub, o_lt, o_le, o_gt, o_ge, o_eq, o_ne, o_mulL, o_mulR, o_div, o_mod, o_addT, o_addL, o_iadd, Pm.ix_tup, ix_lst, Pm.sl_tup, sl_lst, b_len_t, b_len_l, b_abs, b_int_i, b_int_b, b_sum, b_all, b_any, b_tup_l, b_tup_t, b_lst_l, b_lst_t, b_max2, b_max3, b_min2, b_min3, t_bl, t_int, t_tup, t_lst, t_non, a_app, a_ext, bl_bl, decide_true, decide_false, Bool.not_true, Bool.not_false, if_true, if_false, Bool.false_eq_true, for_nil, for_cons, ls_cons, ls_nil, at0, at1, at2, at3, at4, List.cons_append, List.nil_append, List.length_cons, List.length_nil, List.length_map, n_ot, isi_int', isi_bool', isi_tup', isi_str', dn_non, dn_int, dn_tup, dn_str, dn_bl, dnn_non, dnn_int, dnn_tup, dnn_str, dnn_bl, decide_eq_true_eq, fBin, fCons, fTup, fLst, fCall, fCB, fIf, fOf, fTru, fAndB, fOrB, fNotB, fAnd, fOr, fNot, fNeg, fChain, fSl, fOSo, fItems, fZip, fEnum, fRng, fLC, fLCf, fLC2, fIn, fLz, fApp, fExt, fSetI, fIsi, eq_c (a := 32) (by omega) hc, eq_c (a := 97) (by omega) hc, eq_c (a := 98) (by omega) hc, eq_c (a := 105) (by omega) hc, f1, f2, f3, f4]
  try rfl

def tbD (R : Nat → List (List Nat)) : D := .dk [(.inr (SX.S [32]), .tup ((R 32).map tX)), (.inr (SX.S [97]), .tup ((R 97).map tX)), (.inr (SX.S [98]), .tup ((R 98).map tX)), (.inr (SX.S [105]), .tup ((R 105).map tX))]
theorem dict_font (R : Nat → List (List Nat)) : fDictK (M.pure (.kt [glD 32 (R 32), glD 97 (R 97), glD 98 (R 98), glD 105 (R 105)])) = M.pure (tbD R) := by kernel_rfl
theorem tb_at {R : Nat → List (List Nat)} {c : Nat} (hc : c ∈ sg) : dgD (tbD R) (tX [c]) = some (.tup ((R c).map tX)) := by
  simp only [sg, List.mem_cons, List.not_mem_nil, or_false] at hc
  rcases hc with rfl | rfl | rfl | rfl <;> kernel_rfl
theorem wide_eq {h g : Nat} {R : Nat → List (List Nat)} (ok : okF h g R) {l : List Nat} (hl : l.length ≤ 100) (hm : ∀ c ∈ l, c ∈ sg) : m__law_wide [fontK h g R, tX l] = M.pure (.int (meas g R l)) := by
  show p__law_wide _ _ = _
  unfold p__law_wide
  have e0 : fBin ixD (M.pure (fontK h g R)) (M.pure (D.int 2)) = M.pure (.kt [glD 32 (R 32), glD 97 (R 97), glD 98 (R 98), glD 105 (R 105)]) := rfl
  have e3 : fBin ixD (M.pure (fontK h g R)) (M.pure (D.int 1)) = M.pure (.int g) := rfl
  have e1 : fLC (fItems (M.pure (tX l))) (fun _law_sign_ => (fCB lenF (fCons (fBin ixD (fBin dgD (M.pure (tbD R)) (M.pure _law_sign_)) (M.pure (D.int 0))) fNil))) = M.pure (.lst (l.map fun c => .int (wd R c : Nat))) := by
    rw [f_items, items_S (by omega), opt_some, f_lc, map_of (g := fun c => .int (wd R c : Nat))]
    · rfl
    · intro c hc
      obtain ⟨r, rs, e, e2⟩ := row0 ok (hm c hc)
      rw [f_bin, tb_at (hm c hc), opt_some, e, List.map_cons, f_bin, Pm.ix_tup, at0, opt_some, f_nil, f_cons, f_cb, len_S (by rw [e2]; have := ok.w3 c (hm c hc); omega), opt_some, e2]
  have e4 : (l.map fun c => ((wd R c : Nat) : Int)) = ((l.map (wd R)).map fun (n : Nat) => (n : Int)) := by rw [List.map_map]; rfl
  have hg := ok.g2
  have a1 : fCB sumF (fCons (M.pure (D.lst (l.map fun c => .int (wd R c : Nat)))) fNil) = M.pure (.int ((l.map (wd R)).sum : Nat)) := by
    rw [f_nil, f_cons, f_cb, b_sum, ints_of (fun c => ((wd R c : Nat) : Int)), Option.map_some, opt_some, e4, sum_cast]
  have a2 : fCB lenF (fCons (M.pure (D.lst (l.map fun c => .int (wd R c : Nat)))) fNil) = M.pure (.int (l.length : Nat)) := by
    rw [f_nil, f_cons, f_cb, b_len_l, opt_some, List.length_map]
  rw [e0, dict_font, Pm.pure_bind, e1, Pm.pure_bind, f_tru, t_lst, opt_some, f_if]
  cases l with
  | nil => simp [meas]
  | cons c l =>
    rw [if_pos (by simp), a1, a2, e3, f_bin, o_sub, opt_some, f_bin, o_mulL (by omega) (by omega), opt_some, f_bin, o_add, opt_some]
    unfold meas
    have : (((c :: l).length : Nat) : Int) - 1 = (((c :: l).length - 1 : Nat) : Int) := by simp
    rw [this]
    rfl

theorem strs_S : ∀ l : List (List Nat), strsD (l.map tX) = some (l.map SX.S)
  | [] => rfl
  | x :: l => by
    show (strsD (l.map tX)).map _ = _
    rw [strs_S l]; rfl
theorem join_len (S : List Nat) : ∀ ps : List (List Nat), (TL.joinL S ps).length = (ps.map (·.length)).sum + S.length * (ps.length - 1)
  | [] => by simp [TL.joinL]
  | [p] => by simp [TL.joinL]
  | p :: q :: r => by
    rw [TL.joinL, List.length_append, List.length_append, join_len S (q :: r)]
    simp only [List.map_cons, List.sum_cons, List.length_cons, Nat.add_sub_cancel]
    rw [Nat.mul_add, Nat.mul_one]
    omega
theorem join_S {s : List Nat} {ps : List (List Nat)} (h : (ps.map (·.length)).sum + ps.length * s.length ≤ 1000) : joinD (SX.S s) (.lst (ps.map tX)) = some (tX (TL.joinL s ps)) := by
  unfold joinD
  simp only [strs_S, Option.bind_some, SX.lens, List.length_map, SX.S_len]
  rw [if_pos (by omega), SX.join_S]
section
variable {h g : Nat} {R : Nat → List (List Nat)} (ok : okF h g R) {w : List Nat} (w1 : w.length ≤ 50) (w2 : ∀ c ∈ w, c ∈ sg)
include ok w1 w2
end
section
end

theorem exl {α : Type} {E : α → D} {P : α → Prop} : ∀ {l : List D}, (∀ y ∈ l, ∃ c, y = E c ∧ P c) → ∃ cs : List α, l = cs.map E ∧ cs.length = l.length ∧ ∀ c ∈ cs, P c
  | [], _ => ⟨[], rfl, rfl, by simp⟩
  | y :: l, h => by
    obtain ⟨c, rfl, hc⟩ := h y List.mem_cons_self
    obtain ⟨cs, rfl, h1, h2⟩ := exl (fun y hy => h y (List.mem_cons_of_mem _ hy))
    refine ⟨c :: cs, rfl, by simp, fun z hz => ?_⟩
    rcases List.mem_cons.mp hz with rfl | hz
    · exact hc
    · exact h2 z hz
theorem join_one : ∀ cs : List Nat, TL.joinL [] (cs.map fun c => [c]) = cs
  | [] => rfl
  | [c] => rfl
  | c :: d :: cs => by
    show [c] ++ ([] ++ TL.joinL [] ((d :: cs).map fun c => [c])) = _
    rw [join_one (d :: cs)]; rfl
theorem dr_row {ns : List Int} (hn : ns.length ≤ 63) {w : Nat} (hw : w ≤ 3) : Dr (2 * w) (fJoin (M.pure (D.str "")) (fLC (fRng (fCons (M.pure (.int w)) fNil)) fun _law_j_ => (fCall m__law_pick (fCons (M.pure (.scr ns)) (fCons (M.pure .town) (fCons (fLst (fCons (M.pure (D.str "#")) (fCons (M.pure (D.str ".")) fNil))) fNil)))))) (fun d => ∃ r : List Nat, d = tX r ∧ r.length = w ∧ ∀ x ∈ r, x = 35 ∨ x = 46) := by
  have e1 : fRng (fCons (M.pure (.int w)) fNil) = M.pure ((List.range w).map fun (k : Nat) => D.int k) := by
    rw [f_nil, f_cons, f_rng, rng_A (by omega) (by omega), opt_some]; rfl
  have e2 : ∀ (m : M D), fJoin (M.pure (D.str "")) m = m.bind fun d => M.opt (joinD (SX.S []) d) := fun m => rfl
  have e3 : (fCall m__law_pick (fCons (M.pure (.scr ns)) (fCons (M.pure .town) (fCons (fLst (fCons (M.pure (D.str "#")) (fCons (M.pure (D.str ".")) fNil))) fNil)))) = m__law_pick [.scr ns, .town, .lst [tX [35], tX [46]]] := rfl
  rw [e1, e2, e3, f_lc, Pm.bind_assoc]
  have hd := dr_map (f := fun _ => m__law_pick [.scr ns, .town, .lst [tX [35], tX [46]]]) (P := fun d => ∃ c, d = tX [c] ∧ (c = 35 ∨ c = 46)) 2 ((List.range w).map fun (k : Nat) => D.int k) (fun x _ => (dr_pick hn (by simp)).imp fun a ha => by
    simp only [List.mem_cons, List.not_mem_nil, or_false] at ha
    rcases ha with rfl | rfl
    · exact ⟨35, rfl, .inl rfl⟩
    · exact ⟨46, rfl, .inr rfl⟩)
  rw [List.length_map, List.length_range] at hd
  refine Dr.then _ hd (Nat.le_refl _) fun l ⟨h1, h2⟩ => ?_
  obtain ⟨cs, rfl, h3, h4⟩ := exl h2
  rw [Nat.sub_self]
  have e4 : cs.map (fun c => tX [c]) = (cs.map fun c => [c]).map tX := by rw [List.map_map]; rfl
  have e5 : ((cs.map fun c => [c]).map (·.length)).sum = cs.length := by
    rw [List.map_map]
    have : ((fun (x : List Nat) => x.length) ∘ fun (c : Nat) => [c]) = fun _ => 1 := rfl
    rw [this, List.map_const', List.sum_replicate_nat, Nat.mul_one]
  simp only [List.length_map] at h1
  rw [Pm.pure_bind, e4, join_S (by rw [e5]; simp; omega), join_one, opt_some]
  exact Dr.pure ⟨cs, rfl, by omega, h4⟩
structure okG (h : Nat) (rs : List (List Nat)) : Prop where
  len : rs.length = h
  row : ∃ w, 1 ≤ w ∧ w ≤ 3 ∧ ∀ r ∈ rs, r.length = w
  ink : ∀ r ∈ rs, ∀ x ∈ r, x = 35 ∨ x = 46
theorem add_m (i : Int) (m : M D) : fBin addD (M.pure (.int i)) m = m.bind fun d => M.opt (addD (.int i) d) := rfl
theorem dr_glyph {ns : List Int} (hn : ns.length ≤ 63) {h : Nat} (hh : 1 ≤ h ∧ h ≤ 3) {c : Nat} {acc : List D} (ha : acc.length ≤ 50) {K : Nat} {k : D → M D} {Q : D → Prop} (hk : ∀ rs, okG h rs → Dr K (k (.lst (acc ++ [glD c rs]))) Q) :
    Dr (20 + K) (l0__law_drawn_font (.scr ns) .town (.int h) (tX [c]) (.lst acc) k) Q := by
  unfold l0__law_drawn_font
  have e0 : ∀ (a : D), fCall m__law_draw (fCons (M.pure (.scr ns)) (fCons (M.pure .town) (fCons (M.pure a) fNil))) = m__law_draw [.scr ns, .town, a] := fun a => rfl
  rw [e0, add_m, Pm.bind_assoc]
  refine Dr.then 2 (dr_draw hn (by decide)) (by omega) fun d ⟨w, e, w0, w3⟩ => ?_
  subst e
  rw [o_add, opt_some, Pm.pure_bind]
  obtain ⟨wn, hw⟩ : ∃ wn : Nat, 1 + w = wn := ⟨(1 + w).toNat, by omega⟩
  rw [hw]
  have hb := fun (x : D) => dr_row (w := wn) hn (by omega)
  generalize hJ : (fun (_law_i_ : D) => fJoin (M.pure (D.str "")) (fLC (fRng (fCons (M.pure (.int wn)) fNil)) fun _law_j_ => (fCall m__law_pick (fCons (M.pure (.scr ns)) (fCons (M.pure .town) (fCons (fLst (fCons (M.pure (D.str "#")) (fCons (M.pure (D.str ".")) fNil))) fNil)))))) = J
  have hJ' : ∀ x, Dr (2 * wn) (J x) (fun d => ∃ r : List Nat, d = tX r ∧ r.length = wn ∧ ∀ x ∈ r, x = 35 ∨ x = 46) := fun x => by rw [← hJ]; exact hb x
  have e1 : fRng (fCons (M.pure (.int h)) fNil) = M.pure ((List.range h).map fun (k : Nat) => D.int k) := by
    rw [f_nil, f_cons, f_rng, rng_A (by omega) (by omega), opt_some]; rfl
  rw [e1, f_lc, Pm.bind_assoc]
  have hd := dr_map (f := J) (P := fun d => ∃ r : List Nat, d = tX r ∧ r.length = wn ∧ ∀ x ∈ r, x = 35 ∨ x = 46) (2 * wn) ((List.range h).map fun (k : Nat) => D.int k) (fun x _ => hJ' x)
  rw [List.length_map, List.length_range] at hd
  have hb2 : 2 * wn * h ≤ (2 * 3) * 3 := Nat.mul_le_mul (by omega) hh.2
  refine Dr.then 18 (hd.more (by omega)) (by omega) fun l ⟨h1, h2⟩ => ?_
  obtain ⟨rs, rfl, h3, h4⟩ := exl h2
  simp only [List.length_map] at h1
  have e2 : fTup (fCons (M.pure (tX [c])) (fCons (fCB tupF (fCons (M.pure (.lst (rs.map tX))) fNil)) fNil)) = M.pure (glD c rs) := rfl
  rw [Pm.pure_bind, e2, f_app, a_app (by omega), opt_some, Pm.pure_bind]
  exact (hk rs ⟨by simpa using h1, ⟨wn, by omega, by omega, fun r hr => (h4 r hr).1⟩, fun r hr => (h4 r hr).2⟩).more (by omega)
def Rof (a b c d : List (List Nat)) (x : Nat) : List (List Nat) := if x = 32 then a else if x = 97 then b else if x = 98 then c else d
theorem wd_of {h : Nat} {rs : List (List Nat)} (hh : 1 ≤ h) (ok : okG h rs) : 1 ≤ (rs.headD []).length ∧ (rs.headD []).length ≤ 3 ∧ ∀ r ∈ rs, r.length = (rs.headD []).length := by
  obtain ⟨w, w1, w3, hr⟩ := ok.row
  have hl := ok.len
  cases rs with
  | nil => simp at hl; omega
  | cons r rs =>
    have e : ((r :: rs).headD []).length = w := hr r List.mem_cons_self
    rw [e]
    exact ⟨w1, w3, hr⟩
theorem okF_of {h g : Nat} (hh : 1 ≤ h ∧ h ≤ 3) (hg : g ≤ 2) {a b c d : List (List Nat)} (ha : okG h a) (hb : okG h b) (hc : okG h c) (hd : okG h d) : okF h g (Rof a b c d) := by
  have key : ∀ x ∈ sg, okG h (Rof a b c d x) := fun x hx => by
    simp only [sg, List.mem_cons, List.not_mem_nil, or_false] at hx
    rcases hx with rfl | rfl | rfl | rfl
    · exact ha
    · exact hb
    · exact hc
    · exact hd
  exact ⟨hh.1, hh.2, hg, fun x hx => (key x hx).len, fun x hx => (wd_of hh.1 (key x hx)).2.2, fun x hx => (wd_of hh.1 (key x hx)).1, fun x hx => (wd_of hh.1 (key x hx)).2.1, fun x hx => (key x hx).ink⟩

theorem dr_font {ns : List Int} (hn : ns.length ≤ 63) : Dr 84 (m__law_drawn_font [.scr ns, .town]) (fun d => ∃ h g R, d = fontK h g R ∧ okF h g R) := by
  show Dr _ (p__law_drawn_font (.scr ns) .town) _
  unfold p__law_drawn_font
  have e0 : ∀ (a : D), fCall m__law_draw (fCons (M.pure (.scr ns)) (fCons (M.pure .town) (fCons (M.pure a) fNil))) = m__law_draw [.scr ns, .town, a] := fun a => rfl
  rw [e0, add_m, Pm.bind_assoc]
  refine Dr.then 2 (dr_draw hn (by decide)) (by omega) fun d ⟨v, e, v0, v3⟩ => ?_
  subst e
  rw [o_add, opt_some, Pm.pure_bind]
  obtain ⟨h, hh⟩ : ∃ h : Nat, 1 + v = h := ⟨(1 + v).toNat, by omega⟩
  have hh2 : 1 ≤ h ∧ h ≤ 3 := by omega
  rw [hh]
  have eL : fLst fNil = M.pure (.lst []) := rfl
  have eI : fItems (M.pure (D.str " abi")) = M.pure [tX [32], tX [97], tX [98], tX [105]] := rfl
  rw [eL, Pm.pure_bind, eI, Pm.pure_bind, for_cons]
  refine Dr.more (k := 20 + (20 + (20 + (20 + 2)))) ?_ (by decide)
  refine dr_glyph hn hh2 (by simp) fun a ha => ?_
  rw [for_cons]
  refine dr_glyph hn hh2 (by simp) fun b hb => ?_
  rw [for_cons]
  refine dr_glyph hn hh2 (by simp) fun c hc => ?_
  rw [for_cons]
  refine dr_glyph hn hh2 (by simp) fun d hd => ?_
  rw [for_nil]
  have e3 : ∀ (m : M D) (l : List D), fTup (fCons (M.pure (.int h)) (fCons m (fCons (fCB tupKF (fCons (M.pure (.lst l)) fNil)) fNil))) = m.bind fun x => M.pure (.tup [.int h, x, .kt l]) := by
    intro m l
    have : fCB tupKF (fCons (M.pure (.lst l)) fNil) = M.pure (.kt l) := rfl
    rw [this]
    simp only [fTup, fCons, fNil, Pm.bind_assoc, Pm.pure_bind]
  rw [e3]
  refine Dr.then 2 (dr_draw hn (by decide)) (by omega) fun x ⟨g, e, g0, g3⟩ => ?_
  subst e
  obtain ⟨gn, hg⟩ : ∃ gn : Nat, g = gn := ⟨g.toNat, by omega⟩
  subst hg
  exact Dr.pure ⟨h, gn, Rof a b c d, rfl, okF_of hh2 (by omega) ha hb hc hd⟩

def tx8 : List D := [.str "a", .str "b", .str "i", .str "ab", .str "ia", .str " ", .str " ", .str "\n"]
theorem pieces : ∀ d ∈ tx8, ∃ l : List Nat, d = tX l ∧ l.length ≤ 2 ∧ ∀ c ∈ l, c ∈ sg ∨ c = 10 := fun d hd => by
  simp only [tx8, List.mem_cons, List.not_mem_nil, or_false] at hd
  rcases hd with rfl | rfl | rfl | rfl | rfl | rfl | rfl | rfl
  · exact ⟨[97], rfl, by decide, by decide⟩
  · exact ⟨[98], rfl, by decide, by decide⟩
  · exact ⟨[105], rfl, by decide, by decide⟩
  · exact ⟨[97, 98], rfl, by decide, by decide⟩
  · exact ⟨[105, 97], rfl, by decide, by decide⟩
  · exact ⟨[32], rfl, by decide, by decide⟩
  · exact ⟨[32], rfl, by decide, by decide⟩
  · exact ⟨[10], rfl, by decide, by decide⟩
theorem dr_pieces {ns : List Int} (hn : ns.length ≤ 63) {K : Nat} {Q : D → Prop} {k : D → M D} : ∀ (xs : List D) (t : List Nat), t.length + 2 * xs.length ≤ 50 → (∀ c ∈ t, c ∈ sg ∨ c = 10) → (∀ t' : List Nat, t'.length ≤ t.length + 2 * xs.length → (∀ c ∈ t', c ∈ sg ∨ c = 10) → Dr K (k (tX t')) Q) → Dr (2 * xs.length + K) (fFor (l0__law_drawn_text (.scr ns) .town) xs (tX t) k) Q
  | [], t, _, ht, hk => by
    rw [for_nil, List.length_nil, Nat.mul_zero, Nat.zero_add]
    exact hk t (by simp) ht
  | x :: xs, t, hl, ht, hk => by
    simp only [List.length_cons] at hl
    rw [for_cons, List.length_cons]
    unfold l0__law_drawn_text
    have e1 : fCall m__law_pick (fCons (M.pure (.scr ns)) (fCons (M.pure .town) (fCons (fLst (fCons (M.pure (D.str "a")) (fCons (M.pure (D.str "b")) (fCons (M.pure (D.str "i")) (fCons (M.pure (D.str "ab")) (fCons (M.pure (D.str "ia")) (fCons (M.pure (D.str " ")) (fCons (M.pure (D.str " ")) (fCons (M.pure (D.str "\n")) fNil))))))))) fNil))) = m__law_pick [.scr ns, .town, .lst tx8] := rfl
    have e2 : ∀ m, fBin addD (M.pure (tX t)) m = m.bind fun d => M.opt (addD (tX t) d) := fun m => rfl
    rw [e1, e2, Pm.bind_assoc]
    refine Dr.then 2 (dr_pick hn (by simp [tx8])) (by omega) fun d hd => ?_
    obtain ⟨l, rfl, l2, l3⟩ := pieces d hd
    rw [add_S (by omega), opt_some, Pm.pure_bind]
    have := dr_pieces hn (k := k) xs (t ++ l) (by simp; omega) (fun z hz => by
      rcases List.mem_append.mp hz with h | h
      · exact ht z h
      · exact l3 z h) (fun t' h1 h2 => hk t' (by simp at h1 ⊢; omega) h2)
    exact this.more (by omega)
theorem dr_text {ns : List Int} (hn : ns.length ≤ 63) {m : Nat} (hm : 1 ≤ m ∧ m ≤ 20) : Dr (2 + 2 * m) (m__law_drawn_text [.scr ns, .town, .int m]) (fun d => ∃ t : List Nat, d = tX t ∧ t.length ≤ 2 * m ∧ ∀ c ∈ t, c ∈ sg ∨ c = 10) := by
  show Dr _ (p__law_drawn_text (.scr ns) .town (.int m)) _
  unfold p__law_drawn_text
  have e0 : fRng (fCons (fCall m__law_draw (fCons (M.pure (.scr ns)) (fCons (M.pure .town) (fCons (M.pure (.int m)) fNil)))) fNil) = (m__law_draw [.scr ns, .town, .int m]).bind fun d => M.opt (rngF [d]) := by
    simp only [fRng, fCons, fNil, fCall, Pm.bind_assoc, Pm.pure_bind]
  rw [Pm.pure_bind, e0, Pm.bind_assoc]
  refine Dr.then 2 (dr_draw hn (by omega)) (by omega) fun d ⟨r, e, r0, r1⟩ => ?_
  subst e
  rw [rng_A (by omega) (by omega), opt_some, Pm.pure_bind]
  have hl : ((List.range r.toNat).map fun (k : Nat) => D.int k).length = r.toNat := by simp
  have := dr_pieces hn (K := 0) (k := fun d => M.pure d) (Q := fun d => ∃ t : List Nat, d = tX t ∧ t.length ≤ 2 * m ∧ ∀ c ∈ t, c ∈ sg ∨ c = 10) ((List.range r.toNat).map fun (k : Nat) => D.int k) [] (by rw [hl]; simp; omega) (by simp) (fun t' h1 h2 => Dr.pure ⟨t', rfl, by rw [hl] at h1; simp at h1; omega, h2⟩)
  rw [hl] at this
  exact this.more (by omega)
def nolf (t : List Nat) : List Nat := t.filter (· != 10)
theorem repl_S {t : List Nat} (ht : t.length ≤ 1000) : fRepl "\n" "" (M.pure (tX t)) = M.pure (tX (nolf t)) := by
  have e : Txt.replace (SX.S t) ("\n" : Str) ("" : Str) = SX.S (nolf t) := by
    have h := PyProof.Rows.replace_strikes (SX.S t) 10
    rw [← SX.S_tl (Txt.replace (SX.S t) ("\n" : Str) ("" : Str))]
    exact congrArg SX.S h
  show M.opt (if (SX.S t).length + ((SX.S t).length + 1) * ("" : Str).length ≤ 16777216 then some (D.str (Txt.replace (SX.S t) ("\n" : Str) ("" : Str))) else none) = _
  rw [if_pos (by rw [SX.S_len, show ("" : Str).length = 0 from rfl]; omega), e, opt_some]
theorem nolf_ok {t : List Nat} (h : ∀ c ∈ t, c ∈ sg ∨ c = 10) : (nolf t).length ≤ t.length ∧ ∀ c ∈ nolf t, c ∈ sg := by
  refine ⟨List.length_filter_le _ _, fun c hc => ?_⟩
  obtain ⟨h1, h2⟩ := List.mem_filter.mp hc
  rcases h c h1 with z | z
  · exact z
  · subst z; simp at h2
end Rl
end
noncomputable section
namespace Rl
open PySem Pm

def wayOk (way : Str) : Prop := way = "left" ∨ way = "right" ∨ way = "middle"
section
variable {h g W : Nat} {R : Nat → List (List Nat)} (ok : okF h g R)
include ok
end
structure txOk (g W : Nat) (R : Nat → List (List Nat)) (t : List Nat) : Prop where
  len : t.length ≤ 24
  mem : ∀ c ∈ t, c ∈ sg
  fit : meas g R t ≤ W
section
variable {h g W : Nat} {R : Nat → List (List Nat)} (ok : okF h g R) {way : Str} (hw : wayOk way)
include ok hw
end
section
variable {h g : Nat} {R : Nat → List (List Nat)} (ok : okF h g R) {way : Str} (hw : wayOk way)
include ok hw
end
end Rl
end
noncomputable section
namespace Pm
open PySem





section
variable {told : D} {t : Option (List Int)} {o : List (Option Ob)}
end

section
variable {s w h : Nat} (hs : 1 ≤ s) (hs2 : s ≤ 1000) (hw : 1 ≤ w ∧ w ≤ 99) (hh : 1 ≤ h ∧ h ≤ 99) (c : Nat → Nat → D)
end

section
variable {s w h : Nat} (hs : 1 ≤ s) (hs2 : s ≤ 1000) (hw : 1 ≤ w ∧ w ≤ 99) (hh : 1 ≤ h ∧ h ≤ 60) {c : Nat → Nat → C4} (hc : okG w h c)
end
end Pm
end
noncomputable section
namespace Pm
open PySem

section
variable {E : List D → D} (h1 : ∀ r, lenF [E r] = some (.int r.length)) (h2 : ∀ r, itemsD (E r) = some r)
end

end Pm
end
noncomputable section
namespace Pm
open PySem

structure Pc3 where
  w : Nat
  h : Nat
  c : Nat → Nat → C4
structure okP (p : Pc3) : Prop where
  w1 : 1 ≤ p.w ∧ p.w ≤ 99
  h1 : 1 ≤ p.h ∧ p.h ≤ 99
  g : okG p.w p.h p.c
abbrev GrT := List (Int × List Pc3)
structure okGr (G : GrT) (n : Nat) : Prop where
  len : G.length ≤ n
  els : ∀ x ∈ G, x.2 ≠ [] ∧ x.2.length ≤ n ∧ ∀ p ∈ x.2, okP p
section
variable {told : D} {t : Option (List Int)} {o : List (Option Ob)}
end


end Pm
end
noncomputable section
namespace Pm
open PySem


section
variable {κ : Type} [DecidableEq κ]
end



end Pm
end
noncomputable section
namespace Pm
open PySem

abbrev Pl := Int × Int
def inB (w h : Nat) (p : Pl) : Prop := 0 ≤ p.1 ∧ p.1 < w ∧ 0 ≤ p.2 ∧ p.2 < h
instance (w h : Nat) (p : Pl) : Decidable (inB w h p) := by unfold inB; exact inferInstance
def nb (p : Pl) : List Pl := [(p.1 + 1, p.2), (p.1 - 1, p.2), (p.1, p.2 + 1), (p.1, p.2 - 1)]
theorem nb_sym {p q : Pl} (h : q ∈ nb p) : p ∈ nb q := by
  obtain ⟨a, b⟩ := p
  obtain ⟨x, y⟩ := q
  simp only [nb, List.mem_cons, Prod.mk.injEq, List.not_mem_nil, or_false] at h ⊢
  omega
inductive Rch (S : Pl → Bool) (p : Pl) : Pl → Prop
  | refl : Rch S p p
  | step {q r : Pl} : Rch S p q → r ∈ nb q → S r = true → Rch S p r
theorem Rch.trans {S : Pl → Bool} {p q r : Pl} (h : Rch S p q) (h' : Rch S q r) : Rch S p r := by
  induction h' with
  | refl => exact h
  | step _ a b ih => exact .step ih a b
theorem Rch.ok {S : Pl → Bool} {p q : Pl} (hp : S p = true) (h : Rch S p q) : S q = true := by
  cases h with
  | refl => exact hp
  | step _ _ a => exact a
theorem Rch.symm {S : Pl → Bool} {p q : Pl} (hp : S p = true) (h : Rch S p q) : Rch S q p := by
  induction h with
  | refl => exact .refl
  | step h a b ih => exact (Rch.step .refl (nb_sym a) (h.ok hp)).trans ih
theorem Rch.mono {S T : Pl → Bool} {p q : Pl} (hs : ∀ x, S x = true → T x = true) (h : Rch S p q) : Rch T p q := by
  induction h with
  | refl => exact .refl
  | step _ a b ih => exact .step ih a (hs _ b)

structure FI (S : Pl → Bool) (p0 : Pl) (st : List Pl × List Pl) : Prop where
  nd : st.1.Nodup
  sub : ∀ q ∈ st.2, q ∈ st.1
  mem0 : p0 ∈ st.1
  rch : ∀ q ∈ st.1, Rch S p0 q
  cl : ∀ q ∈ st.1, q ∉ st.2 → ∀ s ∈ nb q, S s = true → s ∈ st.1
theorem len_of_sub {α : Type} [DecidableEq α] : ∀ {l m : List α}, l.Nodup → (∀ x ∈ l, x ∈ m) → l.length ≤ m.length
  | [], m, _, _ => Nat.zero_le _
  | x :: l, m, hn, h => by
    obtain ⟨h1, h2⟩ := List.nodup_cons.mp hn
    have hx := h x List.mem_cons_self
    have := len_of_sub (l := l) (m := m.erase x) h2 fun y hy => (List.mem_erase_of_ne (fun z => h1 (by rw [← z]; exact hy))).mpr (h y (List.mem_cons_of_mem _ hy))
    rw [List.length_erase_of_mem hx] at this
    have : 0 < m.length := List.length_pos_of_mem hx
    rw [List.length_cons]; omega

section
variable {w h : Nat} (c : Nat → Nat → C4)
def inS (w h : Nat) (c : Nat → Nat → C4) (k : C4) (q : Pl) : Bool := decide (inB w h q) && decide (c q.1.toNat q.2.toNat = k)
end
end Pm
noncomputable section
namespace Pm
open PySem


section
variable {α : Type}
open Classical in
def labStep (R : α → α → Prop) (st : (α → Option Nat) × Nat) (p : α) : (α → Option Nat) × Nat := if (st.1 p).isSome then st else (fun q => if R p q then some st.2 else st.1 q, st.2 + 1)
def labRun (R : α → α → Prop) (ps : List α) : (α → Option Nat) × Nat := ps.foldl (labStep R) (fun _ => none, 0)
def labOf (R : α → α → Prop) (ps : List α) (p : α) : Nat := ((labRun R ps).1 p).getD 0
end
section
variable {w h : Nat} (c : Nat → Nat → C4)
def Sam (w h : Nat) (c : Nat → Nat → C4) (p q : Pl) : Prop := inB w h p ∧ Rch (inS w h c (c p.1.toNat p.2.toNat)) p q
theorem inS_iff {k : C4} {q : Pl} : inS w h c k q = true ↔ inB w h q ∧ c q.1.toNat q.2.toNat = k := by
  unfold inS; rw [Bool.and_eq_true, decide_eq_true_eq, decide_eq_true_eq]
theorem inS_self {p : Pl} (hp : inB w h p) : inS w h c (c p.1.toNat p.2.toNat) p = true := (inS_iff c).mpr ⟨hp, rfl⟩
theorem Sam.inB' {c : Nat → Nat → C4} {p q : Pl} (z : Sam w h c p q) : inB w h q := ((inS_iff c).mp (z.2.ok (inS_self c z.1))).1
theorem Sam.col {c : Nat → Nat → C4} {p q : Pl} (z : Sam w h c p q) : c q.1.toNat q.2.toNat = c p.1.toNat p.2.toNat := ((inS_iff c).mp (z.2.ok (inS_self c z.1))).2
theorem Sam.symm {c : Nat → Nat → C4} {p q : Pl} (z : Sam w h c p q) : Sam w h c q p := ⟨z.inB', by rw [z.col]; exact z.2.symm (inS_self c z.1)⟩
theorem Sam.trans {c : Nat → Nat → C4} {p q r : Pl} (z : Sam w h c p q) (y : Sam w h c q r) : Sam w h c p r := ⟨z.1, z.2.trans (by have := y.2; rw [z.col] at this; exact this)⟩
structure NumI (w h : Nat) (c : Nat → Nat → C4) (K : List Pl) (st : (Pl → Option Nat) × Nat) : Prop where
  nd : K.Nodup
  sub : ∀ q ∈ K, inB w h q
  mem : ∀ q, (st.1 q).isSome ↔ q ∈ K
  cl : ∀ q r, q ∈ K → Sam w h c q r → r ∈ K
end

section
variable {α : Type} {R : α → α → Prop}
structure LabI (R : α → α → Prop) (ps : List α) (st : (α → Option Nat) × Nat) : Prop where
  dom : ∀ q, (st.1 q).isSome ↔ ∃ p ∈ ps, R p q
  lt : ∀ q k, st.1 q = some k → k < st.2
  eq : ∀ p q i j, st.1 p = some i → st.1 q = some j → (i = j ↔ R p q)
  on : ∀ k, k < st.2 → ∃ p ∈ ps, st.1 p = some k
theorem LabI.step (hs : ∀ p q, R p q → R q p) (ht : ∀ p q r, R p q → R q r → R p r) {ps : List α} {st : (α → Option Nat) × Nat} {p : α} (I : LabI R ps st) (hp : R p p) : LabI R (ps ++ [p]) (labStep R st p) := by
  unfold labStep
  by_cases z : (st.1 p).isSome
  · rw [if_pos z]
    obtain ⟨p0, hp0, h0⟩ := (I.dom p).mp z
    refine ⟨fun q => (I.dom q).trans ⟨fun ⟨a, b, d⟩ => ⟨a, List.mem_append_left _ b, d⟩, fun ⟨a, b, d⟩ => ?_⟩, I.lt, I.eq, fun k hk => let ⟨a, b, d⟩ := I.on k hk; ⟨a, List.mem_append_left _ b, d⟩⟩
    rcases List.mem_append.mp b with b | b
    · exact ⟨a, b, d⟩
    · rw [List.mem_singleton] at b
      subst b
      exact ⟨p0, hp0, ht _ _ _ h0 d⟩
  · rw [if_neg z]
    have hno : ∀ q, R p q → st.1 q = none := fun q hq => by
      cases e : st.1 q with
      | none => rfl
      | some k =>
        obtain ⟨p0, hp0, h0⟩ := (I.dom q).mp (by rw [e]; rfl)
        exact absurd ((I.dom p).mpr ⟨p0, hp0, ht _ _ _ h0 (hs _ _ hq)⟩) z
    refine ⟨fun q => ?_, fun q k e => ?_, fun a b i j ea eb => ?_, fun k hk => ?_⟩
    · dsimp only
      by_cases y : R p q
      · rw [if_pos y]; exact ⟨fun _ => ⟨p, by simp, y⟩, fun _ => rfl⟩
      · rw [if_neg y, I.dom q]
        exact ⟨fun ⟨a, b, d⟩ => ⟨a, List.mem_append_left _ b, d⟩, fun ⟨a, b, d⟩ => by
          rcases List.mem_append.mp b with b | b
          · exact ⟨a, b, d⟩
          · rw [List.mem_singleton] at b; subst b; exact absurd d y⟩
    · dsimp only at e ⊢
      by_cases y : R p q
      · rw [if_pos y] at e; cases e; omega
      · rw [if_neg y] at e; have := I.lt q k e; omega
    · dsimp only at ea eb
      by_cases ya : R p a <;> by_cases yb : R p b
      · rw [if_pos ya] at ea; rw [if_pos yb] at eb; cases ea; cases eb
        exact ⟨fun _ => ht _ _ _ (hs _ _ ya) yb, fun _ => rfl⟩
      · rw [if_pos ya] at ea; rw [if_neg yb] at eb; cases ea
        have := I.lt b j eb
        exact ⟨fun e => by omega, fun e => absurd (ht _ _ _ ya e) yb⟩
      · rw [if_neg ya] at ea; rw [if_pos yb] at eb; cases eb
        have := I.lt a i ea
        exact ⟨fun e => by omega, fun e => absurd (ht _ _ _ yb (hs _ _ e)) ya⟩
      · rw [if_neg ya] at ea; rw [if_neg yb] at eb
        exact I.eq a b i j ea eb
    · dsimp only at hk ⊢
      by_cases e : k = st.2
      · exact ⟨p, by simp, by rw [if_pos hp, e]⟩
      · obtain ⟨a, b, d⟩ := I.on k (by omega)
        exact ⟨a, List.mem_append_left _ b, by rw [if_neg fun y => by rw [hno a y] at d; cases d]; exact d⟩
theorem LabI.run (hs : ∀ p q, R p q → R q p) (ht : ∀ p q r, R p q → R q r → R p r) (ps : List α) (hr : ∀ p ∈ ps, R p p) : LabI R ps (labRun R ps) := by
  have gen : ∀ (qs ps : List α) (st : (α → Option Nat) × Nat), LabI R ps st → (∀ p ∈ qs, R p p) → LabI R (ps ++ qs) (qs.foldl (labStep R) st) := by
    intro qs
    induction qs with
    | nil => intro ps st I _; rw [List.append_nil]; exact I
    | cons q qs ih =>
      intro ps st I hq
      have := ih (ps ++ [q]) _ (I.step hs ht (hq q List.mem_cons_self)) fun x hx => hq x (List.mem_cons_of_mem _ hx)
      rwa [List.append_assoc] at this
  exact gen ps [] _ ⟨fun q => by simp, fun q k e => by simp at e, fun p q i j e => by simp at e, fun k hk => by simp at hk⟩ hr
def labN (R : α → α → Prop) (ps : List α) : Nat := (labRun R ps).2
structure Eqv (R : α → α → Prop) (ps : List α) : Prop where
  rf : ∀ p ∈ ps, R p p
  sy : ∀ p q, R p q → R q p
  tr : ∀ p q r, R p q → R q r → R p r
theorem Eqv.run {ps : List α} (e : Eqv R ps) : LabI R ps (labRun R ps) := LabI.run e.sy e.tr ps e.rf
theorem Eqv.some {ps : List α} (e : Eqv R ps) {p : α} (hp : p ∈ ps) : (labRun R ps).1 p = some (labOf R ps p) := by
  have := (e.run.dom p).mpr ⟨p, hp, e.rf p hp⟩
  unfold labOf
  cases q : (labRun R ps).1 p with
  | none => rw [q] at this; cases this
  | some k => rfl
theorem Eqv.on {ps : List α} (e : Eqv R ps) {k : Nat} (hk : k < labN R ps) : ∃ p ∈ ps, labOf R ps p = k := by
  obtain ⟨p, hp, h⟩ := e.run.on k hk
  rw [e.some hp] at h
  exact ⟨p, hp, Option.some.inj h⟩
end


section
variable {w h : Nat} (c : Nat → Nat → C4)

open Classical in
end
end Pm
noncomputable section
namespace Pm
open PySem
end Pm
namespace Rc
open PySem Pm

end Rc
noncomputable section
namespace Pm
open PySem
end Pm
namespace Rf
open PySem Pm

def ptI (w : Nat) (s : Int) : Pl := (s % w, s / w)
def spI (w : Nat) (p : Pl) : Int := p.2 * w + p.1
def colP (c : Nat → Nat → C4) (p : Pl) : C4 := c p.1.toNat p.2.toNat
theorem sp_pt (w : Nat) (s : Int) : spI w (ptI w s) = s := by
  unfold spI ptI
  have := Int.mul_ediv_add_emod s w
  rw [Int.mul_comm] at this
  exact this
theorem pt_uniq {w : Nat} {s x y : Int} (hw : 1 ≤ w) (e : s = y * w + x) (h0 : 0 ≤ x) (h1 : x < w) : ptI w s = (x, y) := by
  have := (Int.ediv_emod_unique (a := s) (b := (w : Int)) (r := x) (q := y) (by omega)).mpr ⟨by rw [Int.mul_comm]; omega, h0, h1⟩
  unfold ptI
  rw [this.1, this.2]
theorem pt_sp {w h : Nat} {p : Pl} (hw : 1 ≤ w) (hp : inB w h p) : ptI w (spI w p) = p := pt_uniq hw rfl hp.1 hp.2.1
theorem pt_in {w h : Nat} {s : Int} (hw : 1 ≤ w) (h0 : 0 ≤ s) (h1 : s < ((w * h : Nat) : Int)) : inB w h (ptI w s) :=
  ⟨Int.emod_nonneg _ (by omega), Int.emod_lt_of_pos _ (by omega), Int.ediv_nonneg h0 (by omega), Int.ediv_lt_of_lt_mul (by omega) (by rw [Int.mul_comm]; push_cast at h1; exact h1)⟩
theorem sp_in {w h : Nat} {p : Pl} (hp : inB w h p) : 0 ≤ spI w p ∧ spI w p < ((w * h : Nat) : Int) := by
  obtain ⟨x, y⟩ := p
  obtain ⟨h1, h2, h3, h4⟩ := hp
  obtain ⟨a, rfl⟩ := Int.eq_ofNat_of_zero_le h1
  obtain ⟨b, rfl⟩ := Int.eq_ofNat_of_zero_le h3
  have h5 : a < w := by simpa using h2
  have h6 : b + 1 ≤ h := by have : (b : Int) < h := h4; omega
  have h7 : (b + 1) * w ≤ h * w := Nat.mul_le_mul_right w h6
  rw [Nat.succ_mul, Nat.mul_comm h w] at h7
  have e : spI w ((a : Int), (b : Int)) = ((b * w + a : Nat) : Int) := by unfold spI; push_cast; rfl
  rw [e]
  omega
def nxS (w : Nat) (s : Int) : List Int := [s - w, s + w] ++ (if 0 < s % w then [s - 1] else []) ++ (if s % w < w - 1 then [s + 1] else [])
theorem mem_nx {w h : Nat} (hw : 1 ≤ w) {s z : Int} : (z ∈ nxS w s ∧ 0 ≤ z ∧ z < ((w * h : Nat) : Int)) ↔ ∃ q ∈ nb (ptI w s), inB w h q ∧ z = spI w q := by
  have hs := sp_pt w s
  have b0 : 0 ≤ s % w := Int.emod_nonneg _ (by omega)
  have b1 : s % w < w := Int.emod_lt_of_pos _ (by omega)
  have e0 : s = (s / w) * w + s % w := by have := sp_pt w s; unfold spI ptI at this; exact this.symm
  have m1 : (s / w + 1) * w = (s / w) * w + w := by rw [Int.add_mul, Int.one_mul]
  have m2 : (s / w - 1) * w = (s / w) * w - w := by rw [Int.sub_mul, Int.one_mul]
  constructor
  · rintro ⟨hz, h0, h1⟩
    refine ⟨ptI w z, ?_, pt_in hw h0 h1, (sp_pt w z).symm⟩
    unfold nxS at hz
    simp only [List.mem_append, List.mem_cons, List.not_mem_nil, or_false] at hz
    unfold nb ptI
    simp only [List.mem_cons, List.not_mem_nil, or_false]
    rcases hz with ((hz | hz) | hz) | hz
    · have := pt_uniq (s := z) (x := s % w) (y := s / w - 1) hw (by omega) b0 b1
      unfold ptI at this
      exact .inr (.inr (.inr this))
    · have := pt_uniq (s := z) (x := s % w) (y := s / w + 1) hw (by omega) b0 b1
      unfold ptI at this
      exact .inr (.inr (.inl this))
    · by_cases g : 0 < s % w
      · rw [if_pos g, List.mem_singleton] at hz
        have := pt_uniq (s := z) (x := s % w - 1) (y := s / w) hw (by omega) (by omega) (by omega)
        unfold ptI at this
        exact .inr (.inl this)
      · rw [if_neg g] at hz; cases hz
    · by_cases g : s % w < w - 1
      · rw [if_pos g, List.mem_singleton] at hz
        have := pt_uniq (s := z) (x := s % w + 1) (y := s / w) hw (by omega) (by omega) (by omega)
        unfold ptI at this
        exact .inl this
      · rw [if_neg g] at hz; cases hz
  · rintro ⟨q, hq, hi, rfl⟩
    refine ⟨?_, sp_in hi⟩
    obtain ⟨i1, i2, i3, i4⟩ := hi
    unfold nb ptI at hq
    simp only [List.mem_cons, List.not_mem_nil, or_false] at hq
    unfold nxS
    simp only [List.mem_append, List.mem_cons, List.not_mem_nil, or_false]
    rcases hq with rfl | rfl | rfl | rfl <;> unfold spI <;> dsimp only at i1 i2 i3 i4 ⊢
    · right
      rw [if_pos (by omega), List.mem_singleton]; omega
    · left; right
      rw [if_pos (by omega), List.mem_singleton]; omega
    · left; left; right; omega
    · left; left; left; omega
section
variable {w h : Nat} (c : Nat → Nat → C4)
def nxF (w h : Nat) (c : Nat → Nat → C4) (k : C4) (s : Int) : List Int := (nxS w s).filter fun z => decide (0 ≤ z ∧ z < ((w * h : Nat) : Int)) && decide (colP c (ptI w z) = k)
theorem mem_nxF (hw : 1 ≤ w) {k : C4} {s z : Int} : z ∈ nxF w h c k s ↔ ∃ q ∈ nb (ptI w s), inS w h c k q = true ∧ z = spI w q := by
  unfold nxF
  rw [List.mem_filter, Bool.and_eq_true, decide_eq_true_eq, decide_eq_true_eq]
  constructor
  · rintro ⟨h1, h2, h3⟩
    obtain ⟨q, hq, hi, rfl⟩ := (mem_nx hw).mp ⟨h1, h2⟩
    rw [pt_sp hw hi] at h3
    exact ⟨q, hq, (inS_iff c).mpr ⟨hi, h3⟩, rfl⟩
  · rintro ⟨q, hq, hS, rfl⟩
    obtain ⟨hi, hk⟩ := (inS_iff c).mp hS
    obtain ⟨h1, h2⟩ := (mem_nx hw).mpr ⟨q, hq, hi, rfl⟩
    exact ⟨h1, h2, by rw [pt_sp hw hi]; exact hk⟩
structure AI (w h : Nat) (c : Nat → Nat → C4) (sp : Int) (F : List Int) : Prop where
  inc : F.Pairwise (· < ·)
  on : sp ∈ F
  rng : ∀ s ∈ F, 0 ≤ s ∧ s < ((w * h : Nat) : Int)
  rch : ∀ s ∈ F, Rch (inS w h c (colP c (ptI w sp))) (ptI w sp) (ptI w s)
def aStep (w h : Nat) (c : Nat → Nat → C4) (sp : Int) (F : List Int) : List Int := srtI (F ++ F.flatMap (nxF w h c (colP c (ptI w sp))))
theorem mem_aStep {sp z : Int} {F : List Int} : z ∈ aStep w h c sp F ↔ z ∈ F ∨ ∃ s ∈ F, z ∈ nxF w h c (colP c (ptI w sp)) s := by
  unfold aStep
  rw [srtI_mem, List.mem_append, List.mem_flatMap]
theorem AI.len {sp : Int} {F : List Int} (I : AI w h c sp F) : F.length ≤ w * h := by
  have := len_of_sub (m := (List.range (w * h)).map fun (k : Nat) => (k : Int)) (I.inc.imp fun z => Int.ne_of_lt z) fun s hs => List.mem_map.mpr ⟨s.toNat, List.mem_range.mpr (by have := I.rng s hs; omega), by have := I.rng s hs; omega⟩
  simpa using this
theorem AI.step (hw : 1 ≤ w) {sp : Int} {F : List Int} (I : AI w h c sp F) : AI w h c sp (aStep w h c sp F) := by
  refine ⟨srtI_inc _, (mem_aStep c).mpr (.inl I.on), fun s hs => ?_, fun s hs => ?_⟩
  · rcases (mem_aStep c).mp hs with a | ⟨t, ht, a⟩
    · exact I.rng s a
    · obtain ⟨q, _, hS, rfl⟩ := (mem_nxF c hw).mp a
      exact sp_in ((inS_iff c).mp hS).1
  · rcases (mem_aStep c).mp hs with a | ⟨t, ht, a⟩
    · exact I.rch s a
    · obtain ⟨q, hq, hS, rfl⟩ := (mem_nxF c hw).mp a
      rw [pt_sp hw ((inS_iff c).mp hS).1]
      exact .step (I.rch t ht) hq hS
end
end Rf
noncomputable section
namespace Rf
open PySem Pm

section
variable {w h : Nat} (c : Nat → Nat → C4)
def SamI (w h : Nat) (c : Nat → Nat → C4) (s t : Int) : Prop := (0 ≤ s ∧ s < ((w * h : Nat) : Int)) ∧ (0 ≤ t ∧ t < ((w * h : Nat) : Int)) ∧ Sam w h c (ptI w s) (ptI w t)
structure NumJ (w h : Nat) (c : Nat → Nat → C4) (K : List Int) (st : (Int → Option Nat) × Nat) : Prop where
  nd : K.Nodup
  sub : ∀ s ∈ K, 0 ≤ s ∧ s < ((w * h : Nat) : Int)
  mem : ∀ q, (st.1 q).isSome ↔ q ∈ K
  cl : ∀ q r, q ∈ K → SamI w h c q r → r ∈ K

end
end Rf
noncomputable section
namespace Pm
open PySem


end Pm
noncomputable section
namespace Pm
open PySem
end Pm
namespace Rl
open PySem Pm

def jn (ws : List (List Nat)) : List Nat := TL.joinL [32] ws
def abi (w : List Nat) : Prop := ∀ c ∈ w, c = 97 ∨ c = 98 ∨ c = 105
def wok (w : List Nat) : Prop := w ≠ [] ∧ abi w
structure Lw (ws : List (List Nat)) : Prop where
  ok : ∀ w ∈ ws, wok w
  len : (jn ws).length ≤ 24
theorem jn_len (ws : List (List Nat)) : (jn ws).length = (ws.map (·.length)).sum + (ws.length - 1) := by
  unfold jn
  rw [join_len]
  simp
theorem Lw.cnt {ws : List (List Nat)} (h : Lw ws) : ws.length ≤ 24 := by
  have h1 := h.len
  rw [jn_len] at h1
  have : ∀ l : List (List Nat), (∀ w ∈ l, wok w) → l.length ≤ (l.map (·.length)).sum := by
    intro l
    induction l with
    | nil => intro _; simp
    | cons w l ih =>
      intro hl
      have := ih fun x hx => hl x (List.mem_cons_of_mem _ hx)
      have h2 := List.length_pos_iff.mpr (hl w List.mem_cons_self).1
      rw [List.map_cons, List.sum_cons, List.length_cons]
      omega
  have := this ws h.ok
  omega
theorem okd_tX {w : List Nat} (h : ∀ c ∈ w, c < 1114112) (n : Nat) : okd n (tX w) = true := by
  have : okd n (tX w) = PyData.strOk (SX.S w) := by cases n <;> rfl
  rw [this]
  unfold PyData.strOk
  simp
  exact h
theorem sg_lt {c : Nat} (h : c ∈ sg ∨ c = 10) : c < 1114112 := by
  rcases h with q | q
  · simp [sg] at q; omega
  · omega
section
variable {h g : Nat} {R : Nat → List (List Nat)} (ok : okF h g R)
include ok
end

section
variable {h g : Nat} {R : Nat → List (List Nat)} (ok : okF h g R)
include ok
end
end Rl
end
noncomputable section
namespace Rl
open PySem Pm


section
variable {h g : Nat} {R : Nat → List (List Nat)} (ok : okF h g R)
include ok
end

structure Brk (g W : Nat) (R : Nat → List (List Nat)) (ws : List (List Nat)) (ls : List (List (List Nat))) : Prop where
  all : ls.flatten = ws
  ln : ∀ l ∈ ls, l ≠ [] ∧ meas g R (jn l) ≤ W
section
variable {g W : Nat} {R : Nat → List (List Nat)}
end

section
variable {h g : Nat} {R : Nat → List (List Nat)} (ok : okF h g R)
include ok
end
end Rl
end
noncomputable section
namespace Rl
open PySem Pm

section
variable {g W : Nat} {R : Nat → List (List Nat)}
end
structure Lns (g W : Nat) (R : Nat → List (List Nat)) (ws : List (List Nat)) (P : List (List (List Nat))) : Prop where
  all : P.flatten = ws
  lw : ∀ l ∈ P, Lw l
  fit : ∀ l ∈ P, meas g R (jn l) ≤ W
  ne : ws ≠ [] → ∀ l ∈ P, l ≠ []
  some : P ≠ []
  cnt : P.length ≤ 25
section
variable {g W : Nat} {R : Nat → List (List Nat)}
end


end Rl
end
noncomputable section
namespace Rl
open PySem Pm

section
variable {h g W : Nat} {R : Nat → List (List Nat)} {way : Str}

end
end Rl
end
noncomputable section
namespace Rl
open PySem Pm PySem.W PyProof.Rows


section
variable {g W : Nat} {R : Nat → List (List Nat)}
end

end Rl
end
noncomputable section
namespace Pm
open PySem
def j1__law_bent (_law_script_ : D) (_law_town_ : D) (_law_some_ : D) : M D :=
  (fCall m__law_pick (fCons (M.pure _law_script_) (fCons (M.pure _law_town_) (fCons (M.pure _law_some_) fNil))))
def j2__law_bent (_law_script_ : D) (_law_town_ : D) (_law_thing_ : D) (_law_some_ : D) : M D :=
  (fIf (fTru (fIsi "int" (M.pure _law_thing_)))
  (M.bind (fBin addD (M.pure _law_some_) (fBin mulD (fLst (fCons (fBin addB (M.pure _law_thing_) (M.pure (D.int 1))) (fCons (fBin subB (M.pure _law_thing_) (M.pure (D.int 1))) (fCons (fNot (M.pure _law_thing_)) (fCons (fTup (fCons (M.pure _law_thing_) fNil)) (fCons (fCB strB (fCons (M.pure _law_thing_) fNil)) fNil)))))) (M.pure (D.int 2)))) fun _law_some_ =>
  (j1__law_bent _law_script_ _law_town_ _law_some_))
  (j1__law_bent _law_script_ _law_town_ _law_some_))
def p__law_bent (rec_ : Mf) (_law_script_ : D) (_law_town_ : D) (_law_thing_ : D) : M D :=
  (fIf (fOrB (fNotB (fTru (fIsi "tuple" (M.pure _law_thing_)))) (fOrB (fNotB (fTru (M.pure _law_thing_))) (fOf (fBin eqD (fCall m__law_draw (fCons (M.pure _law_script_) (fCons (M.pure _law_town_) (fCons (M.pure (D.int 4)) fNil)))) (M.pure (D.int 0))))))
  (M.bind (fLst (fCons (M.pure D.non) (fCons (M.pure (D.bl true)) (fCons (M.pure (D.bl false)) (fCons (M.pure (D.int 0)) (fCons (M.pure (D.int 1)) (fCons (fNeg (M.pure (D.int 1))) (fCons (M.pure (D.int 255)) (fCons (M.pure (D.int 256)) (fCons (M.pure (D.int 99)) (fCons (M.pure (D.int 100)) (fCons (M.pure (D.str "to")) (fCons (M.pure (D.str "by")) (fCons (M.pure (D.str "")) (fCons (M.pure (D.str "A")) (fCons (fTup fNil) (fCons (fLst fNil) fNil))))))))))))))))) fun _law_some_ =>
  (M.bind (fBin addD (M.pure _law_some_) (fLst (fCons (fTup (fCons (M.pure (D.int 0)) (fCons (M.pure (D.int 0)) fNil))) (fCons (fTup (fCons (M.pure (D.int 1)) (fCons (M.pure (D.int 2)) (fCons (M.pure (D.int 3)) (fCons (M.pure (D.int 4)) fNil))))) (fCons (M.pure (D.str "plain")) fNil))))) fun _law_some_ =>
  (fIf (fTru (fIsi "tuple" (M.pure _law_thing_)))
  (M.bind (fBin addD (M.pure _law_some_) (fLst (fCons (fCB lstF (fCons (M.pure _law_thing_) fNil)) (fCons (fSl (M.pure _law_thing_) fONo (fOSo (fNeg (M.pure (D.int 1))))) (fCons (fBin addD (M.pure _law_thing_) (fSl (M.pure _law_thing_) (fOSo (fNeg (M.pure (D.int 1)))) fONo)) (fCons (fSl (M.pure _law_thing_) (fOSo (M.pure (D.int 1))) fONo) (fCons (fRev (M.pure _law_thing_)) (fCons (fBin addD (M.pure _law_thing_) (fTup (fCons (M.pure D.non) fNil))) fNil)))))))) fun _law_some_ =>
  (j2__law_bent _law_script_ _law_town_ _law_thing_ _law_some_))
  (j2__law_bent _law_script_ _law_town_ _law_thing_ _law_some_))))
  (M.bind (fCall m__law_draw (fCons (M.pure _law_script_) (fCons (M.pure _law_town_) (fCons (fCB lenF (fCons (M.pure _law_thing_) fNil)) fNil)))) fun _law_at_ =>
  (fBin addD (fBin addD (fSl (M.pure _law_thing_) fONo (fOSo (M.pure _law_at_))) (fTup (fCons (fCall rec_ (fCons (M.pure _law_script_) (fCons (M.pure _law_town_) (fCons (fBin ixD (M.pure _law_thing_) (M.pure _law_at_)) fNil)))) fNil))) (fSl (M.pure _law_thing_) (fOSo (fBin addD (M.pure _law_at_) (M.pure (D.int 1)))) fONo))))
def b__law_bent (rec_ : Mf) : Mf := fun ds => match ds with
  | [_law_script_, _law_town_, _law_thing_] => p__law_bent rec_ _law_script_ _law_town_ _law_thing_
  | _ => M.bad
abbrev m__law_bent : Nat → Mf := recF b__law_bent
def p__law_whole (_law_thing_ : D) (_law_low_ : D) (_law_high_ : D) : M D :=
  (fAnd (fIsi "int" (M.pure _law_thing_)) (fAnd (fNot (fIsi "bool" (M.pure _law_thing_))) (fChain leD leD (M.pure _law_low_) (M.pure _law_thing_) (M.pure _law_high_))))
def m__law_whole : Mf := fun ds => match ds with
  | [_law_thing_, _law_low_, _law_high_] => p__law_whole _law_thing_ _law_low_ _law_high_
  | _ => M.bad
def l0__law_is_glyph (_law_thing_ : D) (_law_text_ : D) (st_ : Unit) (k0_ : Unit → M D) : M D :=
  (fIf (fOrB (fNotB (fTru (fIsi "str" (M.pure _law_text_)))) (fNotB (fOf (fChain leD leD (M.pure (D.int 1)) (fCB lenF (fCons (M.pure _law_text_) fNil)) (M.pure (D.int 9))))))
  (M.pure (D.bl false))
  (fIf (fTru (fLCf (fItems (M.pure _law_text_)) fun _law_sign_ => fIf (fOf (fBin ninStr (M.pure _law_sign_) (M.pure (D.str "#.")))) (M.bind (M.pure _law_sign_) fun y_ => M.pure (some y_)) (M.pure none)))
  (M.pure (D.bl false))
  (k0_ ())))
def p__law_is_glyph (_law_thing_ : D) (_law_height_ : D) : M D :=
  (fIf (fOrB (fNotB (fTru (fIsi "tuple" (M.pure _law_thing_)))) (fOrB (fOf (fBin neD (fCB lenF (fCons (M.pure _law_thing_) fNil)) (M.pure (D.int 2)))) (fNotB (fTru (fIsi "str" (fBin ixD (M.pure _law_thing_) (M.pure (D.int 0))))))))
  (M.pure (D.bl false))
  (fIf (fNotB (fTru (fIsi "tuple" (fBin ixD (M.pure _law_thing_) (M.pure (D.int 1))))))
  (M.pure (D.bl false))
  (fIf (fOrB (fOf (fBin neD (fCB lenF (fCons (fBin ixD (M.pure _law_thing_) (M.pure (D.int 0))) fNil)) (M.pure (D.int 1)))) (fOrB (fNotB (fOf (fChain leD leD (M.pure (D.str " ")) (fBin ixD (M.pure _law_thing_) (M.pure (D.int 0))) (M.pure (D.str "~"))))) (fOf (fBin neD (fCB lenF (fCons (fBin ixD (M.pure _law_thing_) (M.pure (D.int 1))) fNil)) (M.pure _law_height_)))))
  (M.pure (D.bl false))
  (M.bind (fItems (fBin ixD (M.pure _law_thing_) (M.pure (D.int 1)))) fun xs1_ => fFor (l0__law_is_glyph _law_thing_) xs1_ () fun _ =>
  (fBin eqD (fCB lsIF (fCons (fLC (fItems (fBin ixD (M.pure _law_thing_) (M.pure (D.int 1)))) fun _law_text_ => (fCB lenF (fCons (M.pure _law_text_) fNil))) fNil)) (M.pure (D.int 1)))))))
def m__law_is_glyph : Mf := fun ds => match ds with
  | [_law_thing_, _law_height_] => p__law_is_glyph _law_thing_ _law_height_
  | _ => M.bad
def p__law_is_font (_law_thing_ : D) : M D :=
  (fIf (fOrB (fNotB (fTru (fIsi "tuple" (M.pure _law_thing_)))) (fOrB (fOf (fBin neD (fCB lenF (fCons (M.pure _law_thing_) fNil)) (M.pure (D.int 3)))) (fNotB (fTru (fIsi "tuple" (fBin ixD (M.pure _law_thing_) (M.pure (D.int 2))))))))
  (M.pure (D.bl false))
  (fIf (fOrB (fNotB (fTru (fCall m__law_whole (fCons (fBin ixD (M.pure _law_thing_) (M.pure (D.int 0))) (fCons (M.pure (D.int 1)) (fCons (M.pure (D.int 9)) fNil)))))) (fNotB (fTru (fCall m__law_whole (fCons (fBin ixD (M.pure _law_thing_) (M.pure (D.int 1))) (fCons (M.pure (D.int 0)) (fCons (M.pure (D.int 9)) fNil)))))))
  (M.pure (D.bl false))
  (fIf (fTru (fLCf (fItems (fBin ixD (M.pure _law_thing_) (M.pure (D.int 2)))) fun _law_one_ => fIf (fNotB (fTru (fCall m__law_is_glyph (fCons (M.pure _law_one_) (fCons (fBin ixD (M.pure _law_thing_) (M.pure (D.int 0))) fNil))))) (M.bind (M.pure _law_one_) fun y_ => M.pure (some y_)) (M.pure none)))
  (M.pure (D.bl false))
  (M.bind (fLC (fItems (fBin ixD (M.pure _law_thing_) (M.pure (D.int 2)))) fun _law_one_ => (fBin ixD (M.pure _law_one_) (M.pure (D.int 0)))) fun _law_names_ =>
  (fAnd (fBin eqD (M.pure _law_names_) (fCB ssTxF (fCons (M.pure _law_names_) fNil))) (fBin inD (M.pure (D.str " ")) (M.pure _law_names_)))))))
def m__law_is_font : Mf := fun ds => match ds with
  | [_law_thing_] => p__law_is_font _law_thing_
  | _ => M.bad
def p_is_glyph (thing_ : D) (height_ : D) : M D :=
  (fIf (fOrB (fNotB (fTru (fIsi "tuple" (M.pure thing_)))) (fOrB (fOf (fBin neD (fCB lenF (fCons (M.pure thing_) fNil)) (M.pure (D.int 2)))) (fOrB (fNotB (fTru (fIsi "str" (fBin ixD (M.pure thing_) (M.pure (D.int 0)))))) (fOf (fBin neD (fCB lenF (fCons (fBin ixD (M.pure thing_) (M.pure (D.int 0))) fNil)) (M.pure (D.int 1)))))))
  (M.pure (D.bl false))
  (fIf (fOrB (fNotB (fOf (fChain leD leD (M.pure (D.str " ")) (fBin ixD (M.pure thing_) (M.pure (D.int 0))) (M.pure (D.str "~"))))) (fOrB (fNotB (fTru (fIsi "tuple" (fBin ixD (M.pure thing_) (M.pure (D.int 1)))))) (fOf (fBin neD (fCB lenF (fCons (fBin ixD (M.pure thing_) (M.pure (D.int 1))) fNil)) (M.pure height_)))))
  (M.pure (D.bl false))
  (fIf (fNotB (fTru (fCB allF (fCons (fLC (fItems (fBin ixD (M.pure thing_) (M.pure (D.int 1)))) fun row_ => (fAnd (fIsi "str" (M.pure row_)) (fChain leD leD (M.pure (D.int 1)) (fCB lenF (fCons (M.pure row_) fNil)) (M.pure (D.int 9))))) fNil))))
  (M.pure (D.bl false))
  (fIf (fNotB (fTru (fCB allF (fCons (fLC (fItems (fBin ixD (M.pure thing_) (M.pure (D.int 1)))) fun row_ => (fBin eqD (fCB lenF (fCons (M.pure row_) fNil)) (fCB lenF (fCons (fBin ixD (fBin ixD (M.pure thing_) (M.pure (D.int 1))) (M.pure (D.int 0))) fNil)))) fNil))))
  (M.pure (D.bl false))
  (fCB allF (fCons (fLC (fItems (fBin ixD (M.pure thing_) (M.pure (D.int 1)))) fun row_ => (fCB allF (fCons (fLC (fItems (M.pure row_)) fun sign_ => (fBin inD (M.pure sign_) (fTup (fCons (M.pure (D.str "#")) (fCons (M.pure (D.str ".")) fNil))))) fNil))) fNil))))))
def m_is_glyph : Mf := fun ds => match ds with
  | [thing_, height_] => p_is_glyph thing_ height_
  | _ => M.bad
def p_is_font (thing_ : D) : M D :=
  (fIf (fOrB (fNotB (fTru (fIsi "tuple" (M.pure thing_)))) (fOrB (fOf (fBin neD (fCB lenF (fCons (M.pure thing_) fNil)) (M.pure (D.int 3)))) (fOrB (fNotB (fTru (fCall m_is_whole (fCons (fBin ixD (M.pure thing_) (M.pure (D.int 0))) fNil)))) (fNotB (fTru (fCall m_is_whole (fCons (fBin ixD (M.pure thing_) (M.pure (D.int 1))) fNil)))))))
  (M.pure (D.bl false))
  (M.bind (M.pure thing_) fun it1_ => (fU3 it1_ fun height_ gap_ signs_ => 
  (fIf (fOrB (fNotB (fOf (fChain leD leD (M.pure (D.int 1)) (M.pure height_) (M.pure (D.int 9))))) (fOrB (fNotB (fOf (fChain leD leD (M.pure (D.int 0)) (M.pure gap_) (M.pure (D.int 9))))) (fNotB (fTru (fIsi "tuple" (M.pure signs_))))))
  (M.pure (D.bl false))
  (fIf (fNotB (fTru (fCB allF (fCons (fLC (fItems (M.pure signs_)) fun one_ => (fCall m_is_glyph (fCons (M.pure one_) (fCons (M.pure height_) fNil)))) fNil))))
  (M.pure (D.bl false))
  (M.bind (fLC (fItems (M.pure signs_)) fun one_ => (fBin ixD (M.pure one_) (M.pure (D.int 0)))) fun names_ =>
  (fAnd (fBin eqD (M.pure names_) (fCB ssTxF (fCons (M.pure names_) fNil))) (fBin inD (M.pure (D.str " ")) (M.pure names_)))))))))
def m_is_font : Mf := fun ds => match ds with
  | [thing_] => p_is_font thing_
  | _ => M.bad
def p__law_measured (_law_font_ : D) (_law_text_ : D) : M D :=
  (M.bind (M.pure D.non) fun _law_got_ =>
  (fTry [("NoSign", true)] (fCall m_measured (fCons (M.pure _law_font_) (fCons (M.pure _law_text_) fNil))) (fun _law_got_ => (M.pure _law_got_)) (M.pure (D.str "NoSign")) (fun _law_got_ => (M.pure _law_got_))))
def m__law_measured : Mf := fun ds => match ds with
  | [_law_font_, _law_text_] => p__law_measured _law_font_ _law_text_
  | _ => M.bad
def l0_law (_law_script_ : D) (_law_town_ : D) (_law_k_ : D) (st_ : Unit) (k0_ : Unit → M D) : M D :=
  (M.bind (fCall m__law_drawn_font (fCons (M.pure _law_script_) (fCons (M.pure _law_town_) fNil))) fun _law_font_ =>
  (M.bind (fUnk (M.pure _law_font_)) fun it1_ => (fU3 it1_ fun _law_height_ _law_gap_ _law_signs_ => 
  (M.bind (fBin ixD (M.pure _law_signs_) (M.pure (D.int 0))) fun _law_blank_ =>
  (M.bind (fLst (fCons (fUnk (M.pure _law_font_)) (fCons (fCB lstF (fCons (fUnk (M.pure _law_font_)) fNil)) (fCons (M.pure D.non) (fCons (fTup fNil) (fCons (fTup (fCons (M.pure _law_height_) (fCons (M.pure _law_gap_) fNil))) (fCons (fTup (fCons (M.pure _law_height_) (fCons (M.pure (D.int 10)) (fCons (M.pure _law_signs_) fNil)))) fNil))))))) fun _law_things_ =>
  (M.bind (fBin addD (M.pure _law_things_) (fLst (fCons (fTup (fCons (M.pure _law_height_) (fCons (M.pure (D.int 0)) (fCons (fSl (M.pure _law_signs_) (fOSo (M.pure (D.int 1))) fONo) fNil)))) (fCons (fTup (fCons (M.pure _law_height_) (fCons (M.pure (D.int 9)) (fCons (fRev (M.pure _law_signs_)) fNil)))) fNil)))) fun _law_things_ =>
  (M.bind (fBin addD (M.pure _law_things_) (fLst (fCons (fTup (fCons (M.pure _law_height_) (fCons (M.pure _law_gap_) (fCons (fBin addD (M.pure _law_signs_) (fSl (M.pure _law_signs_) (fOSo (fNeg (M.pure (D.int 1)))) fONo)) fNil)))) (fCons (fTup (fCons (fBin addD (M.pure _law_height_) (M.pure (D.int 1))) (fCons (M.pure _law_gap_) (fCons (M.pure _law_signs_) fNil)))) fNil)))) fun _law_things_ =>
  (M.bind (fBin addD (M.pure _law_things_) (fLst (fCons (fTup (fCons (M.pure (D.int 10)) (fCons (M.pure _law_gap_) (fCons (fTup fNil) fNil)))) (fCons (fTup (fCons (M.pure _law_height_) (fCons (M.pure _law_gap_) (fCons (fTup fNil) fNil)))) fNil)))) fun _law_things_ =>
  (M.bind (fBin addD (M.pure _law_things_) (fLst (fCons (fTup (fCons (M.pure (D.int 1)) (fCons (M.pure (D.int 0)) (fCons (fTup (fCons (fTup (fCons (M.pure (D.str " ")) (fCons (fTup (fCons (M.pure (D.str "#")) fNil)) fNil))) fNil)) fNil)))) (fCons (fTup (fCons (M.pure (D.int 1)) (fCons (M.pure (D.int 0)) (fCons (fTup (fCons (fTup (fCons (M.pure (D.str " ")) (fCons (fTup (fCons (M.pure (D.str "")) fNil)) fNil))) fNil)) fNil)))) fNil)))) fun _law_things_ =>
  (M.bind (fBin addD (M.pure _law_things_) (fLst (fCons (fTup (fCons (M.pure (D.int 1)) (fCons (M.pure (D.int 0)) (fCons (fTup (fCons (fTup (fCons (M.pure (D.str " ")) (fCons (fTup (fCons (fBin smulD (M.pure (D.str "#")) (M.pure (D.int 9))) fNil)) fNil))) fNil)) fNil)))) (fCons (fTup (fCons (M.pure (D.int 1)) (fCons (M.pure (D.int 0)) (fCons (fTup (fCons (fTup (fCons (M.pure (D.str " ")) (fCons (fTup (fCons (fBin smulD (M.pure (D.str "#")) (M.pure (D.int 10))) fNil)) fNil))) fNil)) fNil)))) fNil)))) fun _law_things_ =>
  (M.bind (fBin addD (M.pure _law_things_) (fLst (fCons (fTup (fCons (M.pure (D.int 2)) (fCons (M.pure (D.int 0)) (fCons (fTup (fCons (fTup (fCons (M.pure (D.str " ")) (fCons (fTup (fCons (M.pure (D.str "#")) (fCons (M.pure (D.str "##")) fNil))) fNil))) fNil)) fNil)))) (fCons (fTup (fCons (M.pure (D.int 1)) (fCons (M.pure (D.int 0)) (fCons (fTup (fCons (fTup (fCons (M.pure (D.str " ")) (fCons (fTup (fCons (M.pure (D.str "x")) fNil)) fNil))) fNil)) fNil)))) fNil)))) fun _law_things_ =>
  (M.bind (fBin addD (M.pure _law_things_) (fLst (fCons (fTup (fCons (M.pure (D.int 1)) (fCons (M.pure (D.int 0)) (fCons (fTup (fCons (fTup (fCons (M.pure (D.str " ")) (fCons (fTup (fCons (M.pure (D.str ".")) fNil)) fNil))) (fCons (fTup (fCons (M.pure (D.str "~")) (fCons (fTup (fCons (M.pure (D.str ".")) fNil)) fNil))) fNil))) fNil)))) fNil))) fun _law_things_ =>
  (M.bind (fBin addD (M.pure _law_things_) (fLst (fCons (fTup (fCons (M.pure (D.int 1)) (fCons (M.pure (D.int 0)) (fCons (fTup (fCons (fTup (fCons (M.pure (D.str " ")) (fCons (fTup (fCons (M.pure (D.str ".")) fNil)) fNil))) (fCons (fTup (fCons (M.pure (D.str "	")) (fCons (fTup (fCons (M.pure (D.str ".")) fNil)) fNil))) fNil))) fNil)))) fNil))) fun _law_things_ =>
  (M.bind (fBin addD (M.pure _law_things_) (fLst (fCons (fTup (fCons (M.pure (D.int 1)) (fCons (M.pure (D.int 0)) (fCons (fTup (fCons (fTup (fCons (M.pure (D.str "")) (fCons (fTup (fCons (M.pure (D.str ".")) fNil)) fNil))) (fCons (fTup (fCons (M.pure (D.str " ")) (fCons (fTup (fCons (M.pure (D.str ".")) fNil)) fNil))) fNil))) fNil)))) (fCons (fTup (fCons (M.pure (D.int 1)) (fCons (M.pure (D.int 0)) (fCons (fTup (fCons (fTup (fCons (M.pure (D.str " ")) (fCons (M.pure (D.str ".")) fNil))) fNil)) fNil)))) fNil)))) fun _law_things_ =>
  (M.bind (fBin addD (M.pure _law_things_) (fLC (fRng (fCons (M.pure (D.int 10)) fNil)) fun _law_j_ => (fCall (m__law_bent 12) (fCons (M.pure _law_script_) (fCons (M.pure _law_town_) (fCons (fUnk (M.pure _law_font_)) fNil)))))) fun _law_things_ =>
  (fIf (fNotB (fTru (fCB allF (fCons (fLC (fItems (M.pure _law_things_)) fun _law_thing_ => (fCall (m__law_same 8) (fCons (fCall m_is_font (fCons (M.pure _law_thing_) fNil)) (fCons (fCall m__law_is_font (fCons (M.pure _law_thing_) fNil)) fNil)))) fNil))))
  (M.pure (D.bl false))
  (M.bind (fRepl "\n" "" (fCall m__law_drawn_text (fCons (M.pure _law_script_) (fCons (M.pure _law_town_) (fCons (M.pure (D.int 6)) fNil))))) fun _law_text_ =>
  (fIf (fOrB (fNotB (fTru (fCall (m__law_same 8) (fCons (fCall m__law_measured (fCons (fUnk (M.pure _law_font_)) (fCons (M.pure _law_text_) fNil))) (fCons (fCall m__law_wide (fCons (M.pure _law_font_) (fCons (M.pure _law_text_) fNil))) fNil))))) (fOf (fBin neD (fCall m_measured (fCons (fUnk (M.pure _law_font_)) (fCons (M.pure (D.str "")) fNil))) (M.pure (D.int 0)))))
  (M.pure (D.bl false))
  (fIf (fOf (fBin neD (fCall m__law_measured (fCons (fUnk (M.pure _law_font_)) (fCons (fBin addD (M.pure _law_text_) (M.pure (D.str "z"))) fNil))) (M.pure (D.str "NoSign"))))
  (M.pure (D.bl false))
  (fIf (fOf (fBin neD (fCall m__law_measured (fCons (fUnk (M.pure _law_font_)) (fCons (fBin ixD (M.pure _law_blank_) (M.pure (D.int 0))) fNil))) (fCB lenF (fCons (fBin ixD (fBin ixD (M.pure _law_blank_) (M.pure (D.int 1))) (M.pure (D.int 0))) fNil))))
  (M.pure (D.bl false))
  (k0_ ())))))))))))))))))))))
def p_law (_law_script_ : D) : M D :=
  (M.bind newTown fun _law_town_ =>
  (M.bind (fRng (fCons (M.pure (D.int 5)) fNil)) fun xs2_ => fFor (l0_law _law_script_ _law_town_) xs2_ () fun _ =>
  (M.pure (D.bl true))))
def m_law : Mf := fun ds => match ds with
  | [_law_script_] => p_law _law_script_
  | _ => M.bad
end Pm
end
namespace Lw
open PySem PySem.Spec PyProof.Rows L2 Pm

def topS (i : Nat) : Stmt := PySem.Challenge.pw_paintyard_k21_fonts_told.main.body.getD i (.Pass ⟨0, 0, 0, 0⟩)
structure Hd (K : PySem.W.Frag) (mg : Str → Option Value) : Prop where
  d__law_draw : Df K mg "_law_draw" (topS 12) ["_law_script", "_law_town", "_law_many"]
  d__law_pick : Df K mg "_law_pick" (topS 13) ["_law_script", "_law_town", "_law_some"]
  d__law_drawn_font : Df K mg "_law_drawn_font" (topS 15) ["_law_script", "_law_town"]
  d__law_bent : Df K mg "_law_bent" (topS 14) ["_law_script", "_law_town", "_law_thing"]
  d__law_same : Df K mg "_law_same" (topS 11) ["_law_got", "_law_due"]
  d__law_whole : Df K mg "_law_whole" (topS 19) ["_law_thing", "_law_low", "_law_high"]
  d__law_is_glyph : Df K mg "_law_is_glyph" (topS 20) ["_law_thing", "_law_height"]
  d__law_is_font : Df K mg "_law_is_font" (topS 21) ["_law_thing"]
  d_is_whole : Df K mg "is_whole" (topS 4) ["thing"]
  d_is_glyph : Df K mg "is_glyph" (topS 6) ["thing", "height"]
  d_is_font : Df K mg "is_font" (topS 7) ["thing"]
  d__law_drawn_text : Df K mg "_law_drawn_text" (topS 16) ["_law_script", "_law_town", "_law_many"]
  d__law_wide : Df K mg "_law_wide" (topS 17) ["_law_font", "_law_text"]
  d_rows_for : Df K mg "rows_for" (topS 8) ["font", "sign"]
  d_measured : Df K mg "measured" (topS 9) ["font", "text"]
  d__law_measured : Df K mg "_law_measured" (topS 22) ["_law_font", "_law_text"]
  d_law : Df K mg "law" (topS 23) ["_law_script"]
  kt : kfl K = true
  x_NoSign : Xk K mg "NoSign"
  t_NoSign_NoSign : Xm K mg "NoSign" "NoSign" true
  n_abs : mg "abs" = none
  n_all : mg "all" = none
  n_bool : mg "bool" = none
  n_dict : mg "dict" = none
  n_int : mg "int" = none
  n_isinstance : mg "isinstance" = none
  n_len : mg "len" = none
  n_list : mg "list" = none
  n_max : mg "max" = none
  n_range : mg "range" = none
  n_set : mg "set" = none
  n_sorted : mg "sorted" = none
  n_str : mg "str" = none
  n_sum : mg "sum" = none
  n_tuple : mg "tuple" = none
  n_zip : mg "zip" = none
theorem sc__law_draw : FnScope ["_law_script", "_law_town", "_law_many", "_law_k", "_law_cell", "_law_digits", "_law_number", "_law_more"] ["_law_script", "_law_town", "_law_many"] (defScope (topS 12)) := ⟨rfl, rfl, rfl, by decide +kernel, rfl, by decide +kernel, by decide +kernel⟩
theorem sc__law_pick : FnScope ["_law_script", "_law_town", "_law_some"] ["_law_script", "_law_town", "_law_some"] (defScope (topS 13)) := ⟨rfl, rfl, rfl, by decide +kernel, rfl, by decide +kernel, by decide +kernel⟩
theorem sc__law_drawn_font : FnScope ["_law_script", "_law_town", "_law_height", "_law_signs", "_law_sign", "_law_wide_here", "_law_lots", "_law_i", "_law_j"] ["_law_script", "_law_town"] (defScope (topS 15)) := ⟨rfl, rfl, rfl, by decide +kernel, rfl, by decide +kernel, by decide +kernel⟩
theorem sc__law_bent : FnScope ["_law_script", "_law_town", "_law_thing", "_law_some", "_law_at"] ["_law_script", "_law_town", "_law_thing"] (defScope (topS 14)) := ⟨rfl, rfl, rfl, by decide +kernel, rfl, by decide +kernel, by decide +kernel⟩
theorem sc__law_same : FnScope ["_law_got", "_law_due", "_law_one", "_law_other"] ["_law_got", "_law_due"] (defScope (topS 11)) := ⟨rfl, rfl, rfl, by decide +kernel, rfl, by decide +kernel, by decide +kernel⟩
theorem sc__law_whole : FnScope ["_law_thing", "_law_low", "_law_high"] ["_law_thing", "_law_low", "_law_high"] (defScope (topS 19)) := ⟨rfl, rfl, rfl, by decide +kernel, rfl, by decide +kernel, by decide +kernel⟩
theorem sc__law_is_glyph : FnScope ["_law_thing", "_law_height", "_law_text", "_law_sign"] ["_law_thing", "_law_height"] (defScope (topS 20)) := ⟨rfl, rfl, rfl, by decide +kernel, rfl, by decide +kernel, by decide +kernel⟩
theorem sc__law_is_font : FnScope ["_law_thing", "_law_names", "_law_one"] ["_law_thing"] (defScope (topS 21)) := ⟨rfl, rfl, rfl, by decide +kernel, rfl, by decide +kernel, by decide +kernel⟩
theorem sc_is_whole : FnScope ["thing"] ["thing"] (defScope (topS 4)) := ⟨rfl, rfl, rfl, by decide +kernel, rfl, by decide +kernel, by decide +kernel⟩
theorem sc_is_glyph : FnScope ["thing", "height", "row", "sign"] ["thing", "height"] (defScope (topS 6)) := ⟨rfl, rfl, rfl, by decide +kernel, rfl, by decide +kernel, by decide +kernel⟩
theorem sc_is_font : FnScope ["thing", "height", "gap", "signs", "names", "one"] ["thing"] (defScope (topS 7)) := ⟨rfl, rfl, rfl, by decide +kernel, rfl, by decide +kernel, by decide +kernel⟩
theorem sc__law_drawn_text : FnScope ["_law_script", "_law_town", "_law_many", "_law_found", "_law_j"] ["_law_script", "_law_town", "_law_many"] (defScope (topS 16)) := ⟨rfl, rfl, rfl, by decide +kernel, rfl, by decide +kernel, by decide +kernel⟩
theorem sc__law_wide : FnScope ["_law_font", "_law_text", "_law_table", "_law_widths", "_law_sign"] ["_law_font", "_law_text"] (defScope (topS 17)) := ⟨rfl, rfl, rfl, by decide +kernel, rfl, by decide +kernel, by decide +kernel⟩
theorem sc_rows_for : FnScope ["font", "sign", "name", "rows"] ["font", "sign"] (defScope (topS 8)) := ⟨rfl, rfl, rfl, by decide +kernel, rfl, by decide +kernel, by decide +kernel⟩
theorem sc_measured : FnScope ["font", "text", "widths", "sign"] ["font", "text"] (defScope (topS 9)) := ⟨rfl, rfl, rfl, by decide +kernel, rfl, by decide +kernel, by decide +kernel⟩
theorem sc__law_measured : FnScope ["_law_font", "_law_text", "_law_got"] ["_law_font", "_law_text"] (defScope (topS 22)) := ⟨rfl, rfl, rfl, by decide +kernel, rfl, by decide +kernel, by decide +kernel⟩
theorem sc_law : FnScope ["_law_script", "_law_town", "_law_k", "_law_font", "_law_height", "_law_gap", "_law_signs", "_law_blank", "_law_things", "_law_text", "_law_j", "_law_thing"] ["_law_script"] (defScope (topS 23)) := ⟨rfl, rfl, rfl, by decide +kernel, rfl, by decide +kernel, by decide +kernel⟩
section
variable {P : Program} {w : World} {K : PySem.W.Frag} {mg : Str → Option Value} {base : Heap}
theorem body__law_draw (h : Hd K mg) : Bdy P w K mg base ["_law_script", "_law_town", "_law_many", "_law_k", "_law_cell", "_law_digits", "_law_number", "_law_more"] 3 "_law_draw" (topS 12) 0 m__law_draw := by
  intro f cdv A outer s H E hr
  have hN := sc__law_draw.nd
  have hu := hr.units
  have hc : (cxOf (L2.CX P w) P w K mg base ["_law_script", "_law_town", "_law_many", "_law_k", "_law_cell", "_law_digits", "_law_number", "_law_more"] "_law_draw" (defScope (topS 12)) f cdv A outer s H E).calm = true := rfl
  have tk : Takes (cxOf (L2.CX P w) P w K mg base ["_law_script", "_law_town", "_law_many", "_law_k", "_law_cell", "_law_digits", "_law_number", "_law_more"] "_law_draw" (defScope (topS 12)) f cdv A outer s H E) (fun cls d _ H => E cls d H) := takes_of rfl rfl rfl rfl
  have hp : PassesOwn (model P w) (cxOf (L2.CX P w) P w K mg base ["_law_script", "_law_town", "_law_many", "_law_k", "_law_cell", "_law_digits", "_law_number", "_law_more"] "_law_draw" (defScope (topS 12)) f cdv A outer s H E).A (cxOf (L2.CX P w) P w K mg base ["_law_script", "_law_town", "_law_many", "_law_k", "_law_cell", "_law_digits", "_law_number", "_law_more"] "_law_draw" (defScope (topS 12)) f cdv A outer s H E).env (cxOf (L2.CX P w) P w K mg base ["_law_script", "_law_town", "_law_many", "_law_k", "_law_cell", "_law_digits", "_law_number", "_law_more"] "_law_draw" (defScope (topS 12)) f cdv A outer s H E).xe := passes_of rfl
  exact ⟨_, (ms_cons (ms_if (mt_not (mt_tw 1)) (ms_one (ms_twApp 1 (m_max hc hu (mr_cons (r_of (m_bin op_addM so_add ot_add (r_of (m_lc hc hN (mi_of (m_var 0)) (own := [("_law_cell", 4)]) (blkOk_by (by kernel_rfl)) (by decide) (fun _ _ _ _ _ => (mgn 4 hN)) (fun _ _ _ _ _ => (m_abs (mr_cons (r_of (m_var 4)) mr_nil) h.n_abs)))) (r_of (m_lst (n := 1) (ma_cons m_int ma_nil) (cnt_cons cnt_nil))))) mr_nil) h.n_max))) ms_nil)
    (ms_cons (ms_twApp 1 m_int)
    (ms_cons (msv 3 hN (m_twLen 1 h.n_len))
    (ms_cons (msv 4 hN (m_if (mt_truth (r_of (m_var 0))) (m_ix (r_of (m_var 0)) (r_of (m_bin op_mod so_mod ot_mod (r_of (m_var 3)) (r_of (m_len (mr_cons (r_of (m_var 0)) mr_nil) h.n_len))))) m_int))
    (ms_cons (msv 5 hN (m_bin op_mod so_mod ot_mod (r_of (m_twAt0 1)) (r_of m_int)))
    (ms_cons (ms_twSet 1 (m_bin op_fdiv so_fdiv ot_fdiv (r_of (m_twAt0 1)) (r_of m_int)))
    (ms_cons (msv 6 hN (m_bin op_mod so_mod ot_mod (r_of (m_bin op_addM so_add ot_add (r_of (m_bin op_addM so_add ot_add (r_of (m_var 4)) (r_of (m_bin op_mulM so_mul ot_mul (r_of m_int) (r_of (m_var 5)))))) (r_of (m_bin op_mulM so_mul ot_mul (r_of m_int) (r_of (m_var 3)))))) (r_of m_int)))
    (ms_cons (msv 6 hN (m_bin op_mod so_mod ot_mod (r_of (m_bin op_mulM so_mul ot_mul (r_of (m_bin op_mod so_mod ot_mod (r_of (m_bin op_mulM so_mul ot_mul (r_of (m_var 6)) (r_of (m_var 6)))) (r_of m_int))) (r_of m_int))) (r_of m_int)))
    (ms_cons (msv 7 hN (m_bin op_mod so_mod ot_mod (r_of (m_bin op_mulM so_mul ot_mul (r_of (m_bin op_mod so_mod ot_mod (r_of (m_bin op_mulM so_mul ot_mul (r_of (m_var 6)) (r_of (m_var 6)))) (r_of m_int))) (r_of m_int))) (r_of m_int)))
    (ms_one (ms_ret (r_of (m_bin op_mod so_mod ot_mod (r_of (m_bin op_addM so_add ot_add (r_of (m_bin op_mulM so_mul ot_mul (r_of (m_bin op_fdiv so_fdiv ot_fdiv (r_of (m_var 6)) (r_of m_int))) (r_of m_int))) (r_of (m_bin op_fdiv so_fdiv ot_fdiv (r_of (m_var 7)) (r_of m_int))))) (r_of (m_var 2))))))))))))))), fun ds hl => match ds, hl with | [_, _, _], _ => by kernel_rfl⟩
theorem c__law_draw (h : Hd K mg) : Cal P w K mg base 1 "_law_draw" ["_law_script", "_law_town", "_law_many"] m__law_draw := cal_of h.d__law_draw sc__law_draw rfl (body__law_draw h )
theorem body__law_pick (h : Hd K mg) (h__law_draw : Cal P w K mg base 1 "_law_draw" ["_law_script", "_law_town", "_law_many"] m__law_draw) : Bdy P w K mg base ["_law_script", "_law_town", "_law_some"] 3 "_law_pick" (topS 13) 1 m__law_pick := by
  intro f cdv A outer s H E hr
  have hN := sc__law_pick.nd
  have hu := hr.units
  have hc : (cxOf (L2.CX P w) P w K mg base ["_law_script", "_law_town", "_law_some"] "_law_pick" (defScope (topS 13)) f cdv A outer s H E).calm = true := rfl
  have tk : Takes (cxOf (L2.CX P w) P w K mg base ["_law_script", "_law_town", "_law_some"] "_law_pick" (defScope (topS 13)) f cdv A outer s H E) (fun cls d _ H => E cls d H) := takes_of rfl rfl rfl rfl
  have hp : PassesOwn (model P w) (cxOf (L2.CX P w) P w K mg base ["_law_script", "_law_town", "_law_some"] "_law_pick" (defScope (topS 13)) f cdv A outer s H E).A (cxOf (L2.CX P w) P w K mg base ["_law_script", "_law_town", "_law_some"] "_law_pick" (defScope (topS 13)) f cdv A outer s H E).env (cxOf (L2.CX P w) P w K mg base ["_law_script", "_law_town", "_law_some"] "_law_pick" (defScope (topS 13)) f cdv A outer s H E).xe := passes_of rfl
  exact ⟨_, (ms_one (ms_ret (r_of (m_ix (r_of (m_var 2)) (r_of (m_cal (h__law_draw.mono (by omega)) rfl hr tk (ma_cons (m_var 0) (ma_cons (m_var 1) (ma_cons (m_len (mr_cons (r_of (m_var 2)) mr_nil) h.n_len) ma_nil))) (cnt_cons (cnt_cons (cnt_cons cnt_nil))))))))), fun ds hl => match ds, hl with | [_, _, _], _ => by kernel_rfl⟩
theorem c__law_pick (h : Hd K mg) (h__law_draw : Cal P w K mg base 1 "_law_draw" ["_law_script", "_law_town", "_law_many"] m__law_draw) : Cal P w K mg base 2 "_law_pick" ["_law_script", "_law_town", "_law_some"] m__law_pick := cal_of h.d__law_pick sc__law_pick rfl (body__law_pick h h__law_draw)
theorem body__law_drawn_font (h : Hd K mg) (h__law_draw : Cal P w K mg base 1 "_law_draw" ["_law_script", "_law_town", "_law_many"] m__law_draw) (h__law_pick : Cal P w K mg base 2 "_law_pick" ["_law_script", "_law_town", "_law_some"] m__law_pick) : Bdy P w K mg base ["_law_script", "_law_town", "_law_height", "_law_signs", "_law_sign", "_law_wide_here", "_law_lots", "_law_i", "_law_j"] 2 "_law_drawn_font" (topS 15) 2 m__law_drawn_font := by
  intro f cdv A outer s H E hr
  have hN := sc__law_drawn_font.nd
  have hu := hr.units
  have hc : (cxOf (L2.CX P w) P w K mg base ["_law_script", "_law_town", "_law_height", "_law_signs", "_law_sign", "_law_wide_here", "_law_lots", "_law_i", "_law_j"] "_law_drawn_font" (defScope (topS 15)) f cdv A outer s H E).calm = true := rfl
  have tk : Takes (cxOf (L2.CX P w) P w K mg base ["_law_script", "_law_town", "_law_height", "_law_signs", "_law_sign", "_law_wide_here", "_law_lots", "_law_i", "_law_j"] "_law_drawn_font" (defScope (topS 15)) f cdv A outer s H E) (fun cls d _ H => E cls d H) := takes_of rfl rfl rfl rfl
  have hp : PassesOwn (model P w) (cxOf (L2.CX P w) P w K mg base ["_law_script", "_law_town", "_law_height", "_law_signs", "_law_sign", "_law_wide_here", "_law_lots", "_law_i", "_law_j"] "_law_drawn_font" (defScope (topS 15)) f cdv A outer s H E).A (cxOf (L2.CX P w) P w K mg base ["_law_script", "_law_town", "_law_height", "_law_signs", "_law_sign", "_law_wide_here", "_law_lots", "_law_i", "_law_j"] "_law_drawn_font" (defScope (topS 15)) f cdv A outer s H E).env (cxOf (L2.CX P w) P w K mg base ["_law_script", "_law_town", "_law_height", "_law_signs", "_law_sign", "_law_wide_here", "_law_lots", "_law_i", "_law_j"] "_law_drawn_font" (defScope (topS 15)) f cdv A outer s H E).xe := passes_of rfl
  exact ⟨_, (ms_cons (ms_par2 hN (i := 2) (j := 3) rfl rfl (by decide) rfl rfl (mh_va (m_bin op_addM so_add ot_add (r_of m_int) (r_of (m_cal (h__law_draw.mono (by omega)) rfl hr tk (ma_cons (m_var 0) (ma_cons (m_var 1) (ma_cons m_int ma_nil))) (cnt_cons (cnt_cons (cnt_cons cnt_nil)))))) (mh_ow (mf_lst (n := 0) ma_nil cnt_nil) mh_nil)) (cnh_va (cnh_ow cnh_nil)))
    (ms_cons (ms_for [4, 5, 6, 7, 8] (fun (e : D × D × D) (st : D) => [.va e.1, .va e.2.1, .va e.2.2, .ow st, .no, .no, .no, .no, .no]) (fun sl => match sl with | [.va p0, .va p1, .va p2, .ow p3, .no, .no, .no, .no, .no] => some ((p0, p1, p2), p3) | _ => none) (fun e => l0__law_drawn_font e.1 e.2.1 e.2.2) hp (mi_of m_str) (mgn 4 hN) (ms_cons (msv 5 hN (m_bin op_addM so_add ot_add (r_of m_int) (r_of (m_cal (h__law_draw.mono (by omega)) rfl hr tk (ma_cons (m_var 0) (ma_cons (m_var 1) (ma_cons m_int ma_nil))) (cnt_cons (cnt_cons (cnt_cons cnt_nil)))))))
    (ms_cons (ms_setLc (i := 6) hc hN rfl rfl (sw_true rfl rfl rfl rfl) (mi_range1 h.n_range (ma_cons (m_var 2) ma_nil) (cnt_cons cnt_nil)) (own := [("_law_i", 7)]) (blkOk_by (by kernel_rfl)) (by decide) (fun _ _ _ _ _ => (mgn 7 hN)) (fun _ _ _ _ _ => (m_join (r_of m_str) (r_of (m_lc hc hN (mi_range1 h.n_range (ma_cons (m_var 5) ma_nil) (cnt_cons cnt_nil)) (own := [("_law_j", 8)]) (blkOk_by (by kernel_rfl)) (by decide) (fun _ _ _ _ _ => (mgn 8 hN)) (fun _ _ _ _ _ => (m_cal (h__law_pick.mono (by omega)) rfl hr takes0 (ma_cons (m_var 0) (ma_cons (m_var 1) (ma_cons (m_lst (n := 2) (ma_cons m_str (ma_cons m_str ma_nil)) (cnt_cons (cnt_cons cnt_nil))) ma_nil))) (cnt_cons (cnt_cons (cnt_cons cnt_nil))))))))))
    (ms_one (ms_app 3 (m_tup (n := 2) (ma_cons (m_var 4) (ma_cons (m_tuple (mr_cons (r_of (m_var 6)) mr_nil) h.n_tuple) ma_nil)) (cnt_cons (cnt_cons cnt_nil))))))) (by intros; kernel_rfl) (by intro sl e st h; (try dsimp only at h); split at h <;> cases h <;> rfl))
    (ms_one (ms_ret (r_of (m_tup (n := 3) (ma_cons (m_var 2) (ma_cons (m_cal (h__law_draw.mono (by omega)) rfl hr tk (ma_cons (m_var 0) (ma_cons (m_var 1) (ma_cons m_int ma_nil))) (cnt_cons (cnt_cons (cnt_cons cnt_nil)))) (ma_cons (m_tupK (mr_cons (r_var 3) mr_nil) h.n_tuple) ma_nil))) (cnt_cons (cnt_cons (cnt_cons cnt_nil))))))))), fun ds hl => match ds, hl with | [_, _], _ => by kernel_rfl⟩
theorem c__law_drawn_font (h : Hd K mg) (h__law_draw : Cal P w K mg base 1 "_law_draw" ["_law_script", "_law_town", "_law_many"] m__law_draw) (h__law_pick : Cal P w K mg base 2 "_law_pick" ["_law_script", "_law_town", "_law_some"] m__law_pick) : Cal P w K mg base 3 "_law_drawn_font" ["_law_script", "_law_town"] m__law_drawn_font := cal_of h.d__law_drawn_font sc__law_drawn_font rfl (body__law_drawn_font h h__law_draw h__law_pick)
theorem body__law_bent (h : Hd K mg) (h__law_draw : Cal P w K mg base 1 "_law_draw" ["_law_script", "_law_town", "_law_many"] m__law_draw) (h__law_pick : Cal P w K mg base 2 "_law_pick" ["_law_script", "_law_town", "_law_some"] m__law_pick) (j : Nat) (h_self : Cal P w K mg base (2 + j) "_law_bent" ["_law_script", "_law_town", "_law_thing"] (m__law_bent j)) : Bdy P w K mg base ["_law_script", "_law_town", "_law_thing", "_law_some", "_law_at"] 3 "_law_bent" (topS 14) (2 + j) (b__law_bent (m__law_bent j)) := by
  intro f cdv A outer s H E hr
  have hN := sc__law_bent.nd
  have hu := hr.units
  have hc : (cxOf (L2.CX P w) P w K mg base ["_law_script", "_law_town", "_law_thing", "_law_some", "_law_at"] "_law_bent" (defScope (topS 14)) f cdv A outer s H E).calm = true := rfl
  have tk : Takes (cxOf (L2.CX P w) P w K mg base ["_law_script", "_law_town", "_law_thing", "_law_some", "_law_at"] "_law_bent" (defScope (topS 14)) f cdv A outer s H E) (fun cls d _ H => E cls d H) := takes_of rfl rfl rfl rfl
  have hp : PassesOwn (model P w) (cxOf (L2.CX P w) P w K mg base ["_law_script", "_law_town", "_law_thing", "_law_some", "_law_at"] "_law_bent" (defScope (topS 14)) f cdv A outer s H E).A (cxOf (L2.CX P w) P w K mg base ["_law_script", "_law_town", "_law_thing", "_law_some", "_law_at"] "_law_bent" (defScope (topS 14)) f cdv A outer s H E).env (cxOf (L2.CX P w) P w K mg base ["_law_script", "_law_town", "_law_thing", "_law_some", "_law_at"] "_law_bent" (defScope (topS 14)) f cdv A outer s H E).xe := passes_of rfl
  exact ⟨_, (ms_cons (ms_if (mt_w (mw_or (mt_not (mt_truth (r_of (m_isiN (T := "tuple") (r_of (m_var 2)) h.n_isinstance h.n_tuple rfl (by decide +kernel))))) (mw_or (mt_not (mt_truth (r_of (m_var 2)))) (mw_or1 (mt_cmp (op_eqM hu) so_eq ot_eq (r_of (m_cal (h__law_draw.mono (by omega)) rfl hr tk (ma_cons (m_var 0) (ma_cons (m_var 1) (ma_cons m_int ma_nil))) (cnt_cons (cnt_cons (cnt_cons cnt_nil))))) (r_of m_int)))))) (ms_cons (msv 3 hN (m_lst (n := 16) (ma_cons m_non (ma_cons m_bl (ma_cons m_bl (ma_cons m_int (ma_cons m_int (ma_cons (m_neg m_int) (ma_cons m_int (ma_cons m_int (ma_cons m_int (ma_cons m_int (ma_cons m_str (ma_cons m_str (ma_cons m_str (ma_cons m_str (ma_cons (m_tup (n := 0) ma_nil cnt_nil) (ma_cons (m_lst (n := 0) ma_nil cnt_nil) ma_nil)))))))))))))))) (cnt_c4 (cnt_c4 (cnt_c4 (cnt_c4 cnt_nil))))))
    (ms_cons (msv 3 hN (m_bin op_addM so_add ot_add (r_of (m_var 3)) (r_of (m_lst (n := 3) (ma_cons (m_tup (n := 2) (ma_cons m_int (ma_cons m_int ma_nil)) (cnt_cons (cnt_cons cnt_nil))) (ma_cons (m_tup (n := 4) (ma_cons m_int (ma_cons m_int (ma_cons m_int (ma_cons m_int ma_nil)))) (cnt_c4 cnt_nil)) (ma_cons m_str ma_nil))) (cnt_cons (cnt_cons (cnt_cons cnt_nil)))))))
    (ms_cons (ms_if (mt_truth (r_of (m_isiN (T := "tuple") (r_of (m_var 2)) h.n_isinstance h.n_tuple rfl (by decide +kernel)))) (ms_one (msv 3 hN (m_bin op_addM so_add ot_add (r_of (m_var 3)) (r_of (m_lst (n := 6) (ma_cons (m_list (mr_cons (r_of (m_var 2)) mr_nil) h.n_list) (ma_cons (m_sl (r_of (m_var 2)) mo_none (mo_some (m_neg m_int))) (ma_cons (m_bin op_addM so_add ot_add (r_of (m_var 2)) (r_of (m_sl (r_of (m_var 2)) (mo_some (m_neg m_int)) mo_none))) (ma_cons (m_sl (r_of (m_var 2)) (mo_some m_int) mo_none) (ma_cons (m_rev (r_of (m_var 2))) (ma_cons (m_bin op_addM so_add ot_add (r_of (m_var 2)) (r_of (m_tup (n := 1) (ma_cons m_non ma_nil) (cnt_cons cnt_nil)))) ma_nil)))))) (cnt_c4 (cnt_cons (cnt_cons cnt_nil)))))))) ms_nil)
    (ms_cons (ms_if (mt_truth (r_of (m_isiN (T := "int") (r_of (m_var 2)) h.n_isinstance h.n_int rfl (by decide +kernel)))) (ms_one (msv 3 hN (m_bin op_addM so_add ot_add (r_of (m_var 3)) (r_of (m_bin op_mulM so_mul ot_mul (r_of (m_lst (n := 5) (ma_cons (m_bin op_addB so_addB ot_addB (r_of (m_var 2)) (r_of m_int)) (ma_cons (m_bin op_subB so_subB ot_subB (r_of (m_var 2)) (r_of m_int)) (ma_cons (m_not (r_of (m_var 2))) (ma_cons (m_tup (n := 1) (ma_cons (m_var 2) ma_nil) (cnt_cons cnt_nil)) (ma_cons (m_strB (mr_cons (r_of (m_var 2)) mr_nil) h.n_str) ma_nil))))) (cnt_c4 (cnt_cons cnt_nil)))) (r_of m_int)))))) ms_nil)
    (ms_one (ms_ret (r_of (m_cal (h__law_pick.mono (by omega)) rfl hr tk (ma_cons (m_var 0) (ma_cons (m_var 1) (ma_cons (m_var 3) ma_nil))) (cnt_cons (cnt_cons (cnt_cons cnt_nil))))))))))) ms_nil)
    (ms_cons (msv 4 hN (m_cal (h__law_draw.mono (by omega)) rfl hr tk (ma_cons (m_var 0) (ma_cons (m_var 1) (ma_cons (m_len (mr_cons (r_of (m_var 2)) mr_nil) h.n_len) ma_nil))) (cnt_cons (cnt_cons (cnt_cons cnt_nil)))))
    (ms_one (ms_ret (r_of (m_bin op_addM so_add ot_add (r_of (m_bin op_addM so_add ot_add (r_of (m_sl (r_of (m_var 2)) mo_none (mo_some (m_var 4)))) (r_of (m_tup (n := 1) (ma_cons (m_cal h_self rfl hr tk (ma_cons (m_var 0) (ma_cons (m_var 1) (ma_cons (m_ix (r_of (m_var 2)) (r_of (m_var 4))) ma_nil))) (cnt_cons (cnt_cons (cnt_cons cnt_nil)))) ma_nil) (cnt_cons cnt_nil))))) (r_of (m_sl (r_of (m_var 2)) (mo_some (m_bin op_addM so_add ot_add (r_of (m_var 4)) (r_of m_int))) mo_none)))))))), fun ds hl => match ds, hl with | [_, _, _], _ => by kernel_rfl⟩
theorem c__law_bent (h : Hd K mg) (h__law_draw : Cal P w K mg base 1 "_law_draw" ["_law_script", "_law_town", "_law_many"] m__law_draw) (h__law_pick : Cal P w K mg base 2 "_law_pick" ["_law_script", "_law_town", "_law_some"] m__law_pick) : Cal P w K mg base 14 "_law_bent" ["_law_script", "_law_town", "_law_thing"] (m__law_bent 12) := cal_rec (d := 2) h.d__law_bent sc__law_bent rfl (fun j hj => body__law_bent h h__law_draw h__law_pick j hj) 12
theorem body__law_same (h : Hd K mg) (j : Nat) (h_self : Cal P w K mg base (0 + j) "_law_same" ["_law_got", "_law_due"] (m__law_same j)) : Bdy P w K mg base ["_law_got", "_law_due", "_law_one", "_law_other"] 2 "_law_same" (topS 11) (0 + j) (b__law_same (m__law_same j)) := by
  intro f cdv A outer s H E hr
  have hN := sc__law_same.nd
  have hu := hr.units
  have hc : (cxOf (L2.CX P w) P w K mg base ["_law_got", "_law_due", "_law_one", "_law_other"] "_law_same" (defScope (topS 11)) f cdv A outer s H E).calm = true := rfl
  have tk : Takes (cxOf (L2.CX P w) P w K mg base ["_law_got", "_law_due", "_law_one", "_law_other"] "_law_same" (defScope (topS 11)) f cdv A outer s H E) (fun cls d _ H => E cls d H) := takes_of rfl rfl rfl rfl
  have hp : PassesOwn (model P w) (cxOf (L2.CX P w) P w K mg base ["_law_got", "_law_due", "_law_one", "_law_other"] "_law_same" (defScope (topS 11)) f cdv A outer s H E).A (cxOf (L2.CX P w) P w K mg base ["_law_got", "_law_due", "_law_one", "_law_other"] "_law_same" (defScope (topS 11)) f cdv A outer s H E).env (cxOf (L2.CX P w) P w K mg base ["_law_got", "_law_due", "_law_one", "_law_other"] "_law_same" (defScope (topS 11)) f cdv A outer s H E).xe := passes_of rfl
  exact ⟨_, (ms_cons (ms_if (mt_cmp op_isN so_isN ot_isN (r_of (m_var 1)) (r_of m_non)) (ms_one (ms_ret (r_of (m_cmp op_isN so_isN ot_isN (r_of (m_var 0)) (r_of m_non))))) ms_nil)
    (ms_cons (ms_if (mt_truth (r_of (m_isiN (T := "bool") (r_of (m_var 1)) h.n_isinstance h.n_bool rfl (by decide +kernel)))) (ms_one (ms_ret (r_of (m_and (m_isiN (T := "bool") (r_of (m_var 0)) h.n_isinstance h.n_bool rfl (by decide +kernel)) (m_one (m_cmp (op_eqM hu) so_eq ot_eq (r_of (m_var 0)) (r_of (m_var 1)))))))) ms_nil)
    (ms_cons (ms_if (mt_truth (r_of (m_isiN (T := "tuple") (r_of (m_var 1)) h.n_isinstance h.n_tuple rfl (by decide +kernel)))) (ms_cons (ms_if (mt_w (mw_or (mt_not (mt_truth (r_of (m_isiN (T := "tuple") (r_of (m_var 0)) h.n_isinstance h.n_tuple rfl (by decide +kernel))))) (mw_or1 (mt_cmp (op_neM hu) so_ne ot_ne (r_of (m_len (mr_cons (r_of (m_var 0)) mr_nil) h.n_len)) (r_of (m_len (mr_cons (r_of (m_var 1)) mr_nil) h.n_len)))))) (ms_one (ms_ret (r_of m_bl))) ms_nil)
    (ms_one (ms_ret (r_of (m_all hc (mr_cons (r_of (m_lc hc hN (mi_zip h.n_zip (ma_cons (m_var 0) (ma_cons (m_var 1) ma_nil))) (own := [("_law_one", 2), ("_law_other", 3)]) (blkOk_by (by kernel_rfl)) (by decide) (fun _ _ _ _ _ => (mg_tup2 hc (mgn 2 hN) (mgn 3 hN))) (fun _ _ _ _ _ => (m_cal h_self rfl hr takes0 (ma_cons (m_var 2) (ma_cons (m_var 3) ma_nil)) (cnt_cons (cnt_cons cnt_nil)))))) mr_nil) h.n_all))))) ms_nil)
    (ms_cons (ms_if (mt_truth (r_of (m_isiN (T := "str") (r_of (m_var 1)) h.n_isinstance h.n_str rfl (by decide +kernel)))) (ms_one (ms_ret (r_of (m_and (m_isiN (T := "str") (r_of (m_var 0)) h.n_isinstance h.n_str rfl (by decide +kernel)) (m_one (m_cmp (op_eqM hu) so_eq ot_eq (r_of (m_var 0)) (r_of (m_var 1)))))))) ms_nil)
    (ms_one (ms_ret (r_of (m_and (m_isiN (T := "int") (r_of (m_var 0)) h.n_isinstance h.n_int rfl (by decide +kernel)) (m_and (m_not (r_of (m_isiN (T := "bool") (r_of (m_var 0)) h.n_isinstance h.n_bool rfl (by decide +kernel)))) (m_one (m_cmp (op_eqM hu) so_eq ot_eq (r_of (m_var 0)) (r_of (m_var 1))))))))))))), fun ds hl => match ds, hl with | [_, _], _ => by kernel_rfl⟩
theorem c__law_same (h : Hd K mg) : Cal P w K mg base 8 "_law_same" ["_law_got", "_law_due"] (m__law_same 8) := cal_rec (d := 0) h.d__law_same sc__law_same rfl (fun j hj => body__law_same h  j hj) 8
theorem body__law_whole (h : Hd K mg) : Bdy P w K mg base ["_law_thing", "_law_low", "_law_high"] 3 "_law_whole" (topS 19) 0 m__law_whole := by
  intro f cdv A outer s H E hr
  have hN := sc__law_whole.nd
  have hu := hr.units
  have hc : (cxOf (L2.CX P w) P w K mg base ["_law_thing", "_law_low", "_law_high"] "_law_whole" (defScope (topS 19)) f cdv A outer s H E).calm = true := rfl
  have tk : Takes (cxOf (L2.CX P w) P w K mg base ["_law_thing", "_law_low", "_law_high"] "_law_whole" (defScope (topS 19)) f cdv A outer s H E) (fun cls d _ H => E cls d H) := takes_of rfl rfl rfl rfl
  have hp : PassesOwn (model P w) (cxOf (L2.CX P w) P w K mg base ["_law_thing", "_law_low", "_law_high"] "_law_whole" (defScope (topS 19)) f cdv A outer s H E).A (cxOf (L2.CX P w) P w K mg base ["_law_thing", "_law_low", "_law_high"] "_law_whole" (defScope (topS 19)) f cdv A outer s H E).env (cxOf (L2.CX P w) P w K mg base ["_law_thing", "_law_low", "_law_high"] "_law_whole" (defScope (topS 19)) f cdv A outer s H E).xe := passes_of rfl
  exact ⟨_, (ms_one (ms_ret (r_of (m_and (m_isiN (T := "int") (r_of (m_var 0)) h.n_isinstance h.n_int rfl (by decide +kernel)) (m_and (m_not (r_of (m_isiN (T := "bool") (r_of (m_var 0)) h.n_isinstance h.n_bool rfl (by decide +kernel)))) (m_one (m_chain op_leM so_le ot_le op_leM so_le ot_le (r_of (m_var 1)) (r_of (m_var 0)) (r_of (m_var 2))))))))), fun ds hl => match ds, hl with | [_, _, _], _ => by kernel_rfl⟩
theorem c__law_whole (h : Hd K mg) : Cal P w K mg base 1 "_law_whole" ["_law_thing", "_law_low", "_law_high"] m__law_whole := cal_of h.d__law_whole sc__law_whole rfl (body__law_whole h )
theorem body__law_is_glyph (h : Hd K mg) : Bdy P w K mg base ["_law_thing", "_law_height", "_law_text", "_law_sign"] 2 "_law_is_glyph" (topS 20) 0 m__law_is_glyph := by
  intro f cdv A outer s H E hr
  have hN := sc__law_is_glyph.nd
  have hu := hr.units
  have hc : (cxOf (L2.CX P w) P w K mg base ["_law_thing", "_law_height", "_law_text", "_law_sign"] "_law_is_glyph" (defScope (topS 20)) f cdv A outer s H E).calm = true := rfl
  have tk : Takes (cxOf (L2.CX P w) P w K mg base ["_law_thing", "_law_height", "_law_text", "_law_sign"] "_law_is_glyph" (defScope (topS 20)) f cdv A outer s H E) (fun cls d _ H => E cls d H) := takes_of rfl rfl rfl rfl
  have hp : PassesOwn (model P w) (cxOf (L2.CX P w) P w K mg base ["_law_thing", "_law_height", "_law_text", "_law_sign"] "_law_is_glyph" (defScope (topS 20)) f cdv A outer s H E).A (cxOf (L2.CX P w) P w K mg base ["_law_thing", "_law_height", "_law_text", "_law_sign"] "_law_is_glyph" (defScope (topS 20)) f cdv A outer s H E).env (cxOf (L2.CX P w) P w K mg base ["_law_thing", "_law_height", "_law_text", "_law_sign"] "_law_is_glyph" (defScope (topS 20)) f cdv A outer s H E).xe := passes_of rfl
  exact ⟨_, (ms_cons (ms_if (mt_w (mw_or (mt_not (mt_truth (r_of (m_isiN (T := "tuple") (r_of (m_var 0)) h.n_isinstance h.n_tuple rfl (by decide +kernel))))) (mw_or (mt_cmp (op_neM hu) so_ne ot_ne (r_of (m_len (mr_cons (r_of (m_var 0)) mr_nil) h.n_len)) (r_of m_int)) (mw_or1 (mt_not (mt_truth (r_of (m_isiN (T := "str") (r_of (m_ix (r_of (m_var 0)) (r_of m_int))) h.n_isinstance h.n_str rfl (by decide +kernel))))))))) (ms_one (ms_ret (r_of m_bl))) ms_nil)
    (ms_cons (ms_if (mt_not (mt_truth (r_of (m_isiN (T := "tuple") (r_of (m_ix (r_of (m_var 0)) (r_of m_int))) h.n_isinstance h.n_tuple rfl (by decide +kernel))))) (ms_one (ms_ret (r_of m_bl))) ms_nil)
    (ms_cons (ms_if (mt_w (mw_or (mt_cmp (op_neM hu) so_ne ot_ne (r_of (m_len (mr_cons (r_of (m_ix (r_of (m_var 0)) (r_of m_int))) mr_nil) h.n_len)) (r_of m_int)) (mw_or (mt_not (mt_chain op_leM so_le ot_le op_leM so_le ot_le (r_of m_str) (r_of (m_ix (r_of (m_var 0)) (r_of m_int))) (r_of m_str))) (mw_or1 (mt_cmp (op_neM hu) so_ne ot_ne (r_of (m_len (mr_cons (r_of (m_ix (r_of (m_var 0)) (r_of m_int))) mr_nil) h.n_len)) (r_of (m_var 1))))))) (ms_one (ms_ret (r_of m_bl))) ms_nil)
    (ms_cons (ms_for [1, 2, 3] (fun (e : D) (st : Unit) => [.va e, .no, .no, .no]) (fun sl => match sl with | [.va p0, .no, .no, .no] => some (p0, ()) | _ => none) (fun e => l0__law_is_glyph e) hp (mi_of (m_ix (r_of (m_var 0)) (r_of m_int))) (mgn 2 hN) (ms_cons (ms_if (mt_w (mw_or (mt_not (mt_truth (r_of (m_isiN (T := "str") (r_of (m_var 2)) h.n_isinstance h.n_str rfl (by decide +kernel))))) (mw_or1 (mt_not (mt_chain op_leM so_le ot_le op_leM so_le ot_le (r_of m_int) (r_of (m_len (mr_cons (r_of (m_var 2)) mr_nil) h.n_len)) (r_of m_int)))))) (ms_one (ms_ret (r_of m_bl))) ms_nil)
    (ms_one (ms_if (mt_truth (r_of (m_lcf hc hN (mi_of (m_var 2)) (own := [("_law_sign", 3)]) (blkOk_by (by kernel_rfl)) (by decide) (fun _ _ _ _ _ => (mgn 3 hN)) (fun _ _ _ _ _ => (mt_cmp op_notin_str so_ninStr ot_ninStr (r_of (m_var 3)) (r_of m_str))) (fun _ _ _ _ _ => (m_var 3))))) (ms_one (ms_ret (r_of m_bl))) ms_nil))) (by intros; kernel_rfl) (by intro sl e st h; (try dsimp only at h); split at h <;> cases h <;> rfl))
    (ms_one (ms_ret (r_of (m_cmp (op_eqM hu) so_eq ot_eq (r_of (m_lenSetI hc (mr_cons (r_of (m_lc hc hN (mi_of (m_ix (r_of (m_var 0)) (r_of m_int))) (own := [("_law_text", 2)]) (blkOk_by (by kernel_rfl)) (by decide) (fun _ _ _ _ _ => (mgn 2 hN)) (fun _ _ _ _ _ => (m_len (mr_cons (r_of (m_var 2)) mr_nil) h.n_len)))) mr_nil) h.n_len h.n_set)) (r_of m_int))))))))), fun ds hl => match ds, hl with | [_, _], _ => by kernel_rfl⟩
theorem c__law_is_glyph (h : Hd K mg) : Cal P w K mg base 1 "_law_is_glyph" ["_law_thing", "_law_height"] m__law_is_glyph := cal_of h.d__law_is_glyph sc__law_is_glyph rfl (body__law_is_glyph h )
theorem body__law_is_font (h : Hd K mg) (h__law_whole : Cal P w K mg base 1 "_law_whole" ["_law_thing", "_law_low", "_law_high"] m__law_whole) (h__law_is_glyph : Cal P w K mg base 1 "_law_is_glyph" ["_law_thing", "_law_height"] m__law_is_glyph) : Bdy P w K mg base ["_law_thing", "_law_names", "_law_one"] 1 "_law_is_font" (topS 21) 1 m__law_is_font := by
  intro f cdv A outer s H E hr
  have hN := sc__law_is_font.nd
  have hu := hr.units
  have hc : (cxOf (L2.CX P w) P w K mg base ["_law_thing", "_law_names", "_law_one"] "_law_is_font" (defScope (topS 21)) f cdv A outer s H E).calm = true := rfl
  have tk : Takes (cxOf (L2.CX P w) P w K mg base ["_law_thing", "_law_names", "_law_one"] "_law_is_font" (defScope (topS 21)) f cdv A outer s H E) (fun cls d _ H => E cls d H) := takes_of rfl rfl rfl rfl
  have hp : PassesOwn (model P w) (cxOf (L2.CX P w) P w K mg base ["_law_thing", "_law_names", "_law_one"] "_law_is_font" (defScope (topS 21)) f cdv A outer s H E).A (cxOf (L2.CX P w) P w K mg base ["_law_thing", "_law_names", "_law_one"] "_law_is_font" (defScope (topS 21)) f cdv A outer s H E).env (cxOf (L2.CX P w) P w K mg base ["_law_thing", "_law_names", "_law_one"] "_law_is_font" (defScope (topS 21)) f cdv A outer s H E).xe := passes_of rfl
  exact ⟨_, (ms_cons (ms_if (mt_w (mw_or (mt_not (mt_truth (r_of (m_isiN (T := "tuple") (r_of (m_var 0)) h.n_isinstance h.n_tuple rfl (by decide +kernel))))) (mw_or (mt_cmp (op_neM hu) so_ne ot_ne (r_of (m_len (mr_cons (r_of (m_var 0)) mr_nil) h.n_len)) (r_of m_int)) (mw_or1 (mt_not (mt_truth (r_of (m_isiN (T := "tuple") (r_of (m_ix (r_of (m_var 0)) (r_of m_int))) h.n_isinstance h.n_tuple rfl (by decide +kernel))))))))) (ms_one (ms_ret (r_of m_bl))) ms_nil)
    (ms_cons (ms_if (mt_w (mw_or (mt_not (mt_truth (r_of (m_cal (h__law_whole.mono (by omega)) rfl hr tk (ma_cons (m_ix (r_of (m_var 0)) (r_of m_int)) (ma_cons m_int (ma_cons m_int ma_nil))) (cnt_cons (cnt_cons (cnt_cons cnt_nil))))))) (mw_or1 (mt_not (mt_truth (r_of (m_cal (h__law_whole.mono (by omega)) rfl hr tk (ma_cons (m_ix (r_of (m_var 0)) (r_of m_int)) (ma_cons m_int (ma_cons m_int ma_nil))) (cnt_cons (cnt_cons (cnt_cons cnt_nil)))))))))) (ms_one (ms_ret (r_of m_bl))) ms_nil)
    (ms_cons (ms_if (mt_truth (r_of (m_lcf hc hN (mi_of (m_ix (r_of (m_var 0)) (r_of m_int))) (own := [("_law_one", 2)]) (blkOk_by (by kernel_rfl)) (by decide) (fun _ _ _ _ _ => (mgn 2 hN)) (fun _ _ _ _ _ => (mt_not (mt_truth (r_of (m_cal (h__law_is_glyph.mono (by omega)) rfl hr takes0 (ma_cons (m_var 2) (ma_cons (m_ix (r_of (m_var 0)) (r_of m_int)) ma_nil)) (cnt_cons (cnt_cons cnt_nil))))))) (fun _ _ _ _ _ => (m_var 2))))) (ms_one (ms_ret (r_of m_bl))) ms_nil)
    (ms_cons (ms_setLc (i := 1) hc hN rfl rfl (sw_true rfl rfl rfl rfl) (mi_of (m_ix (r_of (m_var 0)) (r_of m_int))) (own := [("_law_one", 2)]) (blkOk_by (by kernel_rfl)) (by decide) (fun _ _ _ _ _ => (mgn 2 hN)) (fun _ _ _ _ _ => (m_ix (r_of (m_var 2)) (r_of m_int))))
    (ms_one (ms_ret (r_of (m_and (m_cmp (op_eqM hu) so_eq ot_eq (r_of (m_var 1)) (r_of (m_sortSetTx hc hu (mr_cons (r_of (m_var 1)) mr_nil) h.n_sorted h.n_set))) (m_one (m_cmp (op_inM (un65 hr)) so_in ot_in (r_of m_str) (r_of (m_var 1)))))))))))), fun ds hl => match ds, hl with | [_], _ => by kernel_rfl⟩
theorem c__law_is_font (h : Hd K mg) (h__law_whole : Cal P w K mg base 1 "_law_whole" ["_law_thing", "_law_low", "_law_high"] m__law_whole) (h__law_is_glyph : Cal P w K mg base 1 "_law_is_glyph" ["_law_thing", "_law_height"] m__law_is_glyph) : Cal P w K mg base 2 "_law_is_font" ["_law_thing"] m__law_is_font := cal_of h.d__law_is_font sc__law_is_font rfl (body__law_is_font h h__law_whole h__law_is_glyph)
theorem body_is_whole (h : Hd K mg) : Bdy P w K mg base ["thing"] 1 "is_whole" (topS 4) 0 m_is_whole := by
  intro f cdv A outer s H E hr
  have hN := sc_is_whole.nd
  have hu := hr.units
  have hc : (cxOf (L2.CX P w) P w K mg base ["thing"] "is_whole" (defScope (topS 4)) f cdv A outer s H E).calm = true := rfl
  have tk : Takes (cxOf (L2.CX P w) P w K mg base ["thing"] "is_whole" (defScope (topS 4)) f cdv A outer s H E) (fun cls d _ H => E cls d H) := takes_of rfl rfl rfl rfl
  have hp : PassesOwn (model P w) (cxOf (L2.CX P w) P w K mg base ["thing"] "is_whole" (defScope (topS 4)) f cdv A outer s H E).A (cxOf (L2.CX P w) P w K mg base ["thing"] "is_whole" (defScope (topS 4)) f cdv A outer s H E).env (cxOf (L2.CX P w) P w K mg base ["thing"] "is_whole" (defScope (topS 4)) f cdv A outer s H E).xe := passes_of rfl
  exact ⟨_, (ms_one (ms_ret (r_of (m_and (m_isiN (T := "int") (r_of (m_var 0)) h.n_isinstance h.n_int rfl (by decide +kernel)) (m_one (m_not (r_of (m_isiN (T := "bool") (r_of (m_var 0)) h.n_isinstance h.n_bool rfl (by decide +kernel))))))))), fun ds hl => match ds, hl with | [_], _ => by kernel_rfl⟩
theorem c_is_whole (h : Hd K mg) : Cal P w K mg base 1 "is_whole" ["thing"] m_is_whole := cal_of h.d_is_whole sc_is_whole rfl (body_is_whole h )
theorem body_is_glyph (h : Hd K mg) : Bdy P w K mg base ["thing", "height", "row", "sign"] 2 "is_glyph" (topS 6) 0 m_is_glyph := by
  intro f cdv A outer s H E hr
  have hN := sc_is_glyph.nd
  have hu := hr.units
  have hc : (cxOf (L2.CX P w) P w K mg base ["thing", "height", "row", "sign"] "is_glyph" (defScope (topS 6)) f cdv A outer s H E).calm = true := rfl
  have tk : Takes (cxOf (L2.CX P w) P w K mg base ["thing", "height", "row", "sign"] "is_glyph" (defScope (topS 6)) f cdv A outer s H E) (fun cls d _ H => E cls d H) := takes_of rfl rfl rfl rfl
  have hp : PassesOwn (model P w) (cxOf (L2.CX P w) P w K mg base ["thing", "height", "row", "sign"] "is_glyph" (defScope (topS 6)) f cdv A outer s H E).A (cxOf (L2.CX P w) P w K mg base ["thing", "height", "row", "sign"] "is_glyph" (defScope (topS 6)) f cdv A outer s H E).env (cxOf (L2.CX P w) P w K mg base ["thing", "height", "row", "sign"] "is_glyph" (defScope (topS 6)) f cdv A outer s H E).xe := passes_of rfl
  exact ⟨_, (ms_cons (ms_if (mt_w (mw_or (mt_not (mt_truth (r_of (m_isiN (T := "tuple") (r_of (m_var 0)) h.n_isinstance h.n_tuple rfl (by decide +kernel))))) (mw_or (mt_cmp (op_neM hu) so_ne ot_ne (r_of (m_len (mr_cons (r_of (m_var 0)) mr_nil) h.n_len)) (r_of m_int)) (mw_or (mt_not (mt_truth (r_of (m_isiN (T := "str") (r_of (m_ix (r_of (m_var 0)) (r_of m_int))) h.n_isinstance h.n_str rfl (by decide +kernel))))) (mw_or1 (mt_cmp (op_neM hu) so_ne ot_ne (r_of (m_len (mr_cons (r_of (m_ix (r_of (m_var 0)) (r_of m_int))) mr_nil) h.n_len)) (r_of m_int))))))) (ms_one (ms_ret (r_of m_bl))) ms_nil)
    (ms_cons (ms_if (mt_w (mw_or (mt_not (mt_chain op_leM so_le ot_le op_leM so_le ot_le (r_of m_str) (r_of (m_ix (r_of (m_var 0)) (r_of m_int))) (r_of m_str))) (mw_or (mt_not (mt_truth (r_of (m_isiN (T := "tuple") (r_of (m_ix (r_of (m_var 0)) (r_of m_int))) h.n_isinstance h.n_tuple rfl (by decide +kernel))))) (mw_or1 (mt_cmp (op_neM hu) so_ne ot_ne (r_of (m_len (mr_cons (r_of (m_ix (r_of (m_var 0)) (r_of m_int))) mr_nil) h.n_len)) (r_of (m_var 1))))))) (ms_one (ms_ret (r_of m_bl))) ms_nil)
    (ms_cons (ms_if (mt_not (mt_truth (r_of (m_all hc (mr_cons (r_of (m_lc hc hN (mi_of (m_ix (r_of (m_var 0)) (r_of m_int))) (own := [("row", 2)]) (blkOk_by (by kernel_rfl)) (by decide) (fun _ _ _ _ _ => (mgn 2 hN)) (fun _ _ _ _ _ => (m_and (m_isiN (T := "str") (r_of (m_var 2)) h.n_isinstance h.n_str rfl (by decide +kernel)) (m_one (m_chain op_leM so_le ot_le op_leM so_le ot_le (r_of m_int) (r_of (m_len (mr_cons (r_of (m_var 2)) mr_nil) h.n_len)) (r_of m_int))))))) mr_nil) h.n_all)))) (ms_one (ms_ret (r_of m_bl))) ms_nil)
    (ms_cons (ms_if (mt_not (mt_truth (r_of (m_all hc (mr_cons (r_of (m_lc hc hN (mi_of (m_ix (r_of (m_var 0)) (r_of m_int))) (own := [("row", 2)]) (blkOk_by (by kernel_rfl)) (by decide) (fun _ _ _ _ _ => (mgn 2 hN)) (fun _ _ _ _ _ => (m_cmp (op_eqM hu) so_eq ot_eq (r_of (m_len (mr_cons (r_of (m_var 2)) mr_nil) h.n_len)) (r_of (m_len (mr_cons (r_of (m_ix (r_of (m_ix (r_of (m_var 0)) (r_of m_int))) (r_of m_int))) mr_nil) h.n_len)))))) mr_nil) h.n_all)))) (ms_one (ms_ret (r_of m_bl))) ms_nil)
    (ms_one (ms_ret (r_of (m_all hc (mr_cons (r_of (m_lc hc hN (mi_of (m_ix (r_of (m_var 0)) (r_of m_int))) (own := [("row", 2)]) (blkOk_by (by kernel_rfl)) (by decide) (fun _ _ _ _ _ => (mgn 2 hN)) (fun _ _ _ _ _ => (m_all hc (mr_cons (r_of (m_lc hc hN (mi_of (m_var 2)) (own := [("sign", 3)]) (blkOk_by (by kernel_rfl)) (by decide) (fun _ _ _ _ _ => (mgn 3 hN)) (fun _ _ _ _ _ => (m_cmp (op_inM (un65 hr)) so_in ot_in (r_of (m_var 3)) (r_of (m_tup (n := 2) (ma_cons m_str (ma_cons m_str ma_nil)) (cnt_cons (cnt_cons cnt_nil)))))))) mr_nil) h.n_all)))) mr_nil) h.n_all)))))))), fun ds hl => match ds, hl with | [_, _], _ => by kernel_rfl⟩
theorem c_is_glyph (h : Hd K mg) : Cal P w K mg base 1 "is_glyph" ["thing", "height"] m_is_glyph := cal_of h.d_is_glyph sc_is_glyph rfl (body_is_glyph h )
theorem body_is_font (h : Hd K mg) (h_is_whole : Cal P w K mg base 1 "is_whole" ["thing"] m_is_whole) (h_is_glyph : Cal P w K mg base 1 "is_glyph" ["thing", "height"] m_is_glyph) : Bdy P w K mg base ["thing", "height", "gap", "signs", "names", "one"] 1 "is_font" (topS 7) 1 m_is_font := by
  intro f cdv A outer s H E hr
  have hN := sc_is_font.nd
  have hu := hr.units
  have hc : (cxOf (L2.CX P w) P w K mg base ["thing", "height", "gap", "signs", "names", "one"] "is_font" (defScope (topS 7)) f cdv A outer s H E).calm = true := rfl
  have tk : Takes (cxOf (L2.CX P w) P w K mg base ["thing", "height", "gap", "signs", "names", "one"] "is_font" (defScope (topS 7)) f cdv A outer s H E) (fun cls d _ H => E cls d H) := takes_of rfl rfl rfl rfl
  have hp : PassesOwn (model P w) (cxOf (L2.CX P w) P w K mg base ["thing", "height", "gap", "signs", "names", "one"] "is_font" (defScope (topS 7)) f cdv A outer s H E).A (cxOf (L2.CX P w) P w K mg base ["thing", "height", "gap", "signs", "names", "one"] "is_font" (defScope (topS 7)) f cdv A outer s H E).env (cxOf (L2.CX P w) P w K mg base ["thing", "height", "gap", "signs", "names", "one"] "is_font" (defScope (topS 7)) f cdv A outer s H E).xe := passes_of rfl
  exact ⟨_, (ms_cons (ms_if (mt_w (mw_or (mt_not (mt_truth (r_of (m_isiN (T := "tuple") (r_of (m_var 0)) h.n_isinstance h.n_tuple rfl (by decide +kernel))))) (mw_or (mt_cmp (op_neM hu) so_ne ot_ne (r_of (m_len (mr_cons (r_of (m_var 0)) mr_nil) h.n_len)) (r_of m_int)) (mw_or (mt_not (mt_truth (r_of (m_cal (h_is_whole.mono (by omega)) rfl hr tk (ma_cons (m_ix (r_of (m_var 0)) (r_of m_int)) ma_nil) (cnt_cons cnt_nil))))) (mw_or1 (mt_not (mt_truth (r_of (m_cal (h_is_whole.mono (by omega)) rfl hr tk (ma_cons (m_ix (r_of (m_var 0)) (r_of m_int)) ma_nil) (cnt_cons cnt_nil)))))))))) (ms_one (ms_ret (r_of m_bl))) ms_nil)
    (ms_cons (ms_asg (m_var 0) (mg_tup3 hc (mgn 1 hN) (mgn 2 hN) (mgn 3 hN)))
    (ms_cons (ms_if (mt_w (mw_or (mt_not (mt_chain op_leM so_le ot_le op_leM so_le ot_le (r_of m_int) (r_of (m_var 1)) (r_of m_int))) (mw_or (mt_not (mt_chain op_leM so_le ot_le op_leM so_le ot_le (r_of m_int) (r_of (m_var 2)) (r_of m_int))) (mw_or1 (mt_not (mt_truth (r_of (m_isiN (T := "tuple") (r_of (m_var 3)) h.n_isinstance h.n_tuple rfl (by decide +kernel))))))))) (ms_one (ms_ret (r_of m_bl))) ms_nil)
    (ms_cons (ms_if (mt_not (mt_truth (r_of (m_all hc (mr_cons (r_of (m_lc hc hN (mi_of (m_var 3)) (own := [("one", 5)]) (blkOk_by (by kernel_rfl)) (by decide) (fun _ _ _ _ _ => (mgn 5 hN)) (fun _ _ _ _ _ => (m_cal (h_is_glyph.mono (by omega)) rfl hr takes0 (ma_cons (m_var 5) (ma_cons (m_var 1) ma_nil)) (cnt_cons (cnt_cons cnt_nil)))))) mr_nil) h.n_all)))) (ms_one (ms_ret (r_of m_bl))) ms_nil)
    (ms_cons (ms_setLc (i := 4) hc hN rfl rfl (sw_true rfl rfl rfl rfl) (mi_of (m_var 3)) (own := [("one", 5)]) (blkOk_by (by kernel_rfl)) (by decide) (fun _ _ _ _ _ => (mgn 5 hN)) (fun _ _ _ _ _ => (m_ix (r_of (m_var 5)) (r_of m_int))))
    (ms_one (ms_ret (r_of (m_and (m_cmp (op_eqM hu) so_eq ot_eq (r_of (m_var 4)) (r_of (m_sortSetTx hc hu (mr_cons (r_of (m_var 4)) mr_nil) h.n_sorted h.n_set))) (m_one (m_cmp (op_inM (un65 hr)) so_in ot_in (r_of m_str) (r_of (m_var 4))))))))))))), fun ds hl => match ds, hl with | [_], _ => by kernel_rfl⟩
theorem c_is_font (h : Hd K mg) (h_is_whole : Cal P w K mg base 1 "is_whole" ["thing"] m_is_whole) (h_is_glyph : Cal P w K mg base 1 "is_glyph" ["thing", "height"] m_is_glyph) : Cal P w K mg base 2 "is_font" ["thing"] m_is_font := cal_of h.d_is_font sc_is_font rfl (body_is_font h h_is_whole h_is_glyph)
theorem body__law_drawn_text (h : Hd K mg) (h__law_draw : Cal P w K mg base 1 "_law_draw" ["_law_script", "_law_town", "_law_many"] m__law_draw) (h__law_pick : Cal P w K mg base 2 "_law_pick" ["_law_script", "_law_town", "_law_some"] m__law_pick) : Bdy P w K mg base ["_law_script", "_law_town", "_law_many", "_law_found", "_law_j"] 3 "_law_drawn_text" (topS 16) 2 m__law_drawn_text := by
  intro f cdv A outer s H E hr
  have hN := sc__law_drawn_text.nd
  have hu := hr.units
  have hc : (cxOf (L2.CX P w) P w K mg base ["_law_script", "_law_town", "_law_many", "_law_found", "_law_j"] "_law_drawn_text" (defScope (topS 16)) f cdv A outer s H E).calm = true := rfl
  have tk : Takes (cxOf (L2.CX P w) P w K mg base ["_law_script", "_law_town", "_law_many", "_law_found", "_law_j"] "_law_drawn_text" (defScope (topS 16)) f cdv A outer s H E) (fun cls d _ H => E cls d H) := takes_of rfl rfl rfl rfl
  have hp : PassesOwn (model P w) (cxOf (L2.CX P w) P w K mg base ["_law_script", "_law_town", "_law_many", "_law_found", "_law_j"] "_law_drawn_text" (defScope (topS 16)) f cdv A outer s H E).A (cxOf (L2.CX P w) P w K mg base ["_law_script", "_law_town", "_law_many", "_law_found", "_law_j"] "_law_drawn_text" (defScope (topS 16)) f cdv A outer s H E).env (cxOf (L2.CX P w) P w K mg base ["_law_script", "_law_town", "_law_many", "_law_found", "_law_j"] "_law_drawn_text" (defScope (topS 16)) f cdv A outer s H E).xe := passes_of rfl
  exact ⟨_, (ms_cons (msv 3 hN m_str)
    (ms_cons (ms_for [2, 4] (fun (e : D × D) (st : D) => [.va e.1, .va e.2, .no, .va st, .no]) (fun sl => match sl with | [.va p0, .va p1, .no, .va p3, .no] => some ((p0, p1), p3) | _ => none) (fun e => l0__law_drawn_text e.1 e.2) hp (mi_range1 h.n_range (ma_cons (m_cal (h__law_draw.mono (by omega)) rfl hr tk (ma_cons (m_var 0) (ma_cons (m_var 1) (ma_cons (m_var 2) ma_nil))) (cnt_cons (cnt_cons (cnt_cons cnt_nil)))) ma_nil) (cnt_cons cnt_nil)) (mgn 4 hN) (ms_one (msv 3 hN (m_bin op_addM so_add ot_add (r_of (m_var 3)) (r_of (m_cal (h__law_pick.mono (by omega)) rfl hr tk (ma_cons (m_var 0) (ma_cons (m_var 1) (ma_cons (m_lst (n := 8) (ma_cons m_str (ma_cons m_str (ma_cons m_str (ma_cons m_str (ma_cons m_str (ma_cons m_str (ma_cons m_str (ma_cons m_str ma_nil)))))))) (cnt_c4 (cnt_c4 cnt_nil))) ma_nil))) (cnt_cons (cnt_cons (cnt_cons cnt_nil)))))))) (by intros; kernel_rfl) (by intro sl e st h; (try dsimp only at h); split at h <;> cases h <;> rfl))
    (ms_one (ms_ret (r_of (m_var 3)))))), fun ds hl => match ds, hl with | [_, _, _], _ => by kernel_rfl⟩
theorem c__law_drawn_text (h : Hd K mg) (h__law_draw : Cal P w K mg base 1 "_law_draw" ["_law_script", "_law_town", "_law_many"] m__law_draw) (h__law_pick : Cal P w K mg base 2 "_law_pick" ["_law_script", "_law_town", "_law_some"] m__law_pick) : Cal P w K mg base 3 "_law_drawn_text" ["_law_script", "_law_town", "_law_many"] m__law_drawn_text := cal_of h.d__law_drawn_text sc__law_drawn_text rfl (body__law_drawn_text h h__law_draw h__law_pick)
theorem body__law_wide (h : Hd K mg) : Bdy P w K mg base ["_law_font", "_law_text", "_law_table", "_law_widths", "_law_sign"] 2 "_law_wide" (topS 17) 0 m__law_wide := by
  intro f cdv A outer s H E hr
  have hN := sc__law_wide.nd
  have hu := hr.units
  have hc : (cxOf (L2.CX P w) P w K mg base ["_law_font", "_law_text", "_law_table", "_law_widths", "_law_sign"] "_law_wide" (defScope (topS 17)) f cdv A outer s H E).calm = true := rfl
  have tk : Takes (cxOf (L2.CX P w) P w K mg base ["_law_font", "_law_text", "_law_table", "_law_widths", "_law_sign"] "_law_wide" (defScope (topS 17)) f cdv A outer s H E) (fun cls d _ H => E cls d H) := takes_of rfl rfl rfl rfl
  have hp : PassesOwn (model P w) (cxOf (L2.CX P w) P w K mg base ["_law_font", "_law_text", "_law_table", "_law_widths", "_law_sign"] "_law_wide" (defScope (topS 17)) f cdv A outer s H E).A (cxOf (L2.CX P w) P w K mg base ["_law_font", "_law_text", "_law_table", "_law_widths", "_law_sign"] "_law_wide" (defScope (topS 17)) f cdv A outer s H E).env (cxOf (L2.CX P w) P w K mg base ["_law_font", "_law_text", "_law_table", "_law_widths", "_law_sign"] "_law_wide" (defScope (topS 17)) f cdv A outer s H E).xe := passes_of rfl
  exact ⟨_, (ms_cons (msv 2 hN (m_ofF (mf_dictK hc (m_ix (r_of (m_var 0)) (r_of m_int)) h.n_dict)))
    (ms_cons (ms_setLc (i := 3) hc hN rfl rfl (sw_true rfl rfl rfl rfl) (mi_of (m_var 1)) (own := [("_law_sign", 4)]) (blkOk_by (by kernel_rfl)) (by decide) (fun _ _ _ _ _ => (mgn 4 hN)) (fun _ _ _ _ _ => (m_len (mr_cons (r_of (m_ix (r_of (m_dget hu (r_of (m_var 2)) (r_of (m_var 4)))) (r_of m_int))) mr_nil) h.n_len)))
    (ms_one (ms_ret (r_if (mt_truth (r_of (m_var 3))) (r_of (m_bin op_addM so_add ot_add (r_of (m_sum hc (mr_cons (r_of (m_var 3)) mr_nil) h.n_sum)) (r_of (m_bin op_mulM so_mul ot_mul (r_of (m_ix (r_of (m_var 0)) (r_of m_int))) (r_of (m_bin op_sub so_sub ot_sub (r_of (m_len (mr_cons (r_of (m_var 3)) mr_nil) h.n_len)) (r_of m_int))))))) (r_of m_int)))))), fun ds hl => match ds, hl with | [_, _], _ => by kernel_rfl⟩
theorem c__law_wide (h : Hd K mg) : Cal P w K mg base 1 "_law_wide" ["_law_font", "_law_text"] m__law_wide := cal_of h.d__law_wide sc__law_wide rfl (body__law_wide h )
theorem body_rows_for (h : Hd K mg) : Bdy P w K mg base ["font", "sign", "name", "rows"] 2 "rows_for" (topS 8) 0 m_rows_for := by
  intro f cdv A outer s H E hr
  have hN := sc_rows_for.nd
  have hu := hr.units
  have hc : (cxOf (L2.CX P w) P w K mg base ["font", "sign", "name", "rows"] "rows_for" (defScope (topS 8)) f cdv A outer s H E).calm = true := rfl
  have tk : Takes (cxOf (L2.CX P w) P w K mg base ["font", "sign", "name", "rows"] "rows_for" (defScope (topS 8)) f cdv A outer s H E) (fun cls d _ H => E cls d H) := takes_of rfl rfl rfl rfl
  have hp : PassesOwn (model P w) (cxOf (L2.CX P w) P w K mg base ["font", "sign", "name", "rows"] "rows_for" (defScope (topS 8)) f cdv A outer s H E).A (cxOf (L2.CX P w) P w K mg base ["font", "sign", "name", "rows"] "rows_for" (defScope (topS 8)) f cdv A outer s H E).env (cxOf (L2.CX P w) P w K mg base ["font", "sign", "name", "rows"] "rows_for" (defScope (topS 8)) f cdv A outer s H E).xe := passes_of rfl
  exact ⟨_, (ms_cons (ms_for [0, 2, 3] (fun (e : D) (st : Unit) => [.no, .va e, .no, .no]) (fun sl => match sl with | [.no, .va p1, .no, .no] => some (p1, ()) | _ => none) (fun e => l0_rows_for e) hp (mi_of (m_ix (r_of (m_var 0)) (r_of m_int))) (mg_tup2 hc (mgn 2 hN) (mgn 3 hN)) (ms_one (ms_if (mt_cmp (op_eqM hu) so_eq ot_eq (r_of (m_var 2)) (r_of (m_var 1))) (ms_one (ms_ret (r_of (m_var 3)))) ms_nil)) (by intros; kernel_rfl) (by intro sl e st h; (try dsimp only at h); split at h <;> cases h <;> rfl))
    (ms_one (ms_raiseX h.x_NoSign tk))), fun ds hl => match ds, hl with | [_, _], _ => by kernel_rfl⟩
theorem c_rows_for (h : Hd K mg) : Cal P w K mg base 1 "rows_for" ["font", "sign"] m_rows_for := cal_of h.d_rows_for sc_rows_for rfl (body_rows_for h )
theorem body_measured (h : Hd K mg) (h_rows_for : Cal P w K mg base 1 "rows_for" ["font", "sign"] m_rows_for) : Bdy P w K mg base ["font", "text", "widths", "sign"] 2 "measured" (topS 9) 1 m_measured := by
  intro f cdv A outer s H E hr
  have hN := sc_measured.nd
  have hu := hr.units
  have hc : (cxOf (L2.CX P w) P w K mg base ["font", "text", "widths", "sign"] "measured" (defScope (topS 9)) f cdv A outer s H E).calm = true := rfl
  have tk : Takes (cxOf (L2.CX P w) P w K mg base ["font", "text", "widths", "sign"] "measured" (defScope (topS 9)) f cdv A outer s H E) (fun cls d _ H => E cls d H) := takes_of rfl rfl rfl rfl
  have hp : PassesOwn (model P w) (cxOf (L2.CX P w) P w K mg base ["font", "text", "widths", "sign"] "measured" (defScope (topS 9)) f cdv A outer s H E).A (cxOf (L2.CX P w) P w K mg base ["font", "text", "widths", "sign"] "measured" (defScope (topS 9)) f cdv A outer s H E).env (cxOf (L2.CX P w) P w K mg base ["font", "text", "widths", "sign"] "measured" (defScope (topS 9)) f cdv A outer s H E).xe := passes_of rfl
  exact ⟨_, (ms_cons (ms_setLcX (i := 2) hc hN tk rfl rfl (sw_true rfl rfl rfl rfl) (mi_of (m_var 1)) (own := [("sign", 3)]) (blkOk_by (by kernel_rfl)) (by decide) (fun _ _ _ _ _ _ => (mgn 3 hN)) (fun _ _ _ _ _ _ _ tk => (m_len (mr_cons (r_of (m_ix (r_of (m_cal (h_rows_for.mono (by omega)) rfl hr tk (ma_cons (m_var 0) (ma_cons (m_var 3) ma_nil)) (cnt_cons (cnt_cons cnt_nil)))) (r_of m_int))) mr_nil) h.n_len)))
    (ms_one (ms_ret (r_of (m_bin op_addM so_add ot_add (r_of (m_sum hc (mr_cons (r_of (m_var 2)) mr_nil) h.n_sum)) (r_of (m_bin op_mulM so_mul ot_mul (r_of (m_ix (r_of (m_var 0)) (r_of m_int))) (r_of (m_max hc hu (mr_cons (r_of m_int) (mr_cons (r_of (m_bin op_sub so_sub ot_sub (r_of (m_len (mr_cons (r_of (m_var 2)) mr_nil) h.n_len)) (r_of m_int))) mr_nil)) h.n_max))))))))), fun ds hl => match ds, hl with | [_, _], _ => by kernel_rfl⟩
theorem c_measured (h : Hd K mg) (h_rows_for : Cal P w K mg base 1 "rows_for" ["font", "sign"] m_rows_for) : Cal P w K mg base 2 "measured" ["font", "text"] m_measured := cal_of h.d_measured sc_measured rfl (body_measured h h_rows_for)
theorem body__law_measured (h : Hd K mg) (h_measured : Cal P w K mg base 2 "measured" ["font", "text"] m_measured) : Bdy P w K mg base ["_law_font", "_law_text", "_law_got"] 2 "_law_measured" (topS 22) 2 m__law_measured := by
  intro f cdv A outer s H E hr
  have hN := sc__law_measured.nd
  have hu := hr.units
  have hc : (cxOf (L2.CX P w) P w K mg base ["_law_font", "_law_text", "_law_got"] "_law_measured" (defScope (topS 22)) f cdv A outer s H E).calm = true := rfl
  have tk : Takes (cxOf (L2.CX P w) P w K mg base ["_law_font", "_law_text", "_law_got"] "_law_measured" (defScope (topS 22)) f cdv A outer s H E) (fun cls d _ H => E cls d H) := takes_of rfl rfl rfl rfl
  have hp : PassesOwn (model P w) (cxOf (L2.CX P w) P w K mg base ["_law_font", "_law_text", "_law_got"] "_law_measured" (defScope (topS 22)) f cdv A outer s H E).A (cxOf (L2.CX P w) P w K mg base ["_law_font", "_law_text", "_law_got"] "_law_measured" (defScope (topS 22)) f cdv A outer s H E).env (cxOf (L2.CX P w) P w K mg base ["_law_font", "_law_text", "_law_got"] "_law_measured" (defScope (topS 22)) f cdv A outer s H E).xe := passes_of rfl
  exact ⟨_, (ms_cons (msv 2 hN m_non)
    (ms_cons (ms_try1 (i := 2) (j := 2) (T := [("NoSign", true)]) h.x_NoSign (xm_cons h.t_NoSign_NoSign xm_nil) tk (fun _ _ _ tk hp => (pb_set hN (m_cal (h_measured.mono (by omega)) rfl hr tk (ma_cons (m_var 0) (ma_cons (m_var 1) ma_nil)) (cnt_cons (cnt_cons cnt_nil))))) (fun _ _ _ => (pb_set hN m_str)))
    (ms_one (ms_ret (r_of (m_var 2)))))), fun ds hl => match ds, hl with | [_, _], _ => by kernel_rfl⟩
theorem c__law_measured (h : Hd K mg) (h_measured : Cal P w K mg base 2 "measured" ["font", "text"] m_measured) : Cal P w K mg base 3 "_law_measured" ["_law_font", "_law_text"] m__law_measured := cal_of h.d__law_measured sc__law_measured rfl (body__law_measured h h_measured)
theorem body_law (h : Hd K mg) (h__law_drawn_font : Cal P w K mg base 3 "_law_drawn_font" ["_law_script", "_law_town"] m__law_drawn_font) (h__law_bent : Cal P w K mg base 14 "_law_bent" ["_law_script", "_law_town", "_law_thing"] (m__law_bent 12)) (h__law_is_font : Cal P w K mg base 2 "_law_is_font" ["_law_thing"] m__law_is_font) (h_is_font : Cal P w K mg base 2 "is_font" ["thing"] m_is_font) (h__law_same : Cal P w K mg base 8 "_law_same" ["_law_got", "_law_due"] (m__law_same 8)) (h__law_drawn_text : Cal P w K mg base 3 "_law_drawn_text" ["_law_script", "_law_town", "_law_many"] m__law_drawn_text) (h__law_wide : Cal P w K mg base 1 "_law_wide" ["_law_font", "_law_text"] m__law_wide) (h__law_measured : Cal P w K mg base 3 "_law_measured" ["_law_font", "_law_text"] m__law_measured) (h_measured : Cal P w K mg base 2 "measured" ["font", "text"] m_measured) : Bdy P w K mg base ["_law_script", "_law_town", "_law_k", "_law_font", "_law_height", "_law_gap", "_law_signs", "_law_blank", "_law_things", "_law_text", "_law_j", "_law_thing"] 1 "law" (topS 23) 14 m_law := by
  intro f cdv A outer s H E hr
  have hN := sc_law.nd
  have hu := hr.units
  have hc : (cxOf (L2.CX P w) P w K mg base ["_law_script", "_law_town", "_law_k", "_law_font", "_law_height", "_law_gap", "_law_signs", "_law_blank", "_law_things", "_law_text", "_law_j", "_law_thing"] "law" (defScope (topS 23)) f cdv A outer s H E).calm = true := rfl
  have tk : Takes (cxOf (L2.CX P w) P w K mg base ["_law_script", "_law_town", "_law_k", "_law_font", "_law_height", "_law_gap", "_law_signs", "_law_blank", "_law_things", "_law_text", "_law_j", "_law_thing"] "law" (defScope (topS 23)) f cdv A outer s H E) (fun cls d _ H => E cls d H) := takes_of rfl rfl rfl rfl
  have hp : PassesOwn (model P w) (cxOf (L2.CX P w) P w K mg base ["_law_script", "_law_town", "_law_k", "_law_font", "_law_height", "_law_gap", "_law_signs", "_law_blank", "_law_things", "_law_text", "_law_j", "_law_thing"] "law" (defScope (topS 23)) f cdv A outer s H E).A (cxOf (L2.CX P w) P w K mg base ["_law_script", "_law_town", "_law_k", "_law_font", "_law_height", "_law_gap", "_law_signs", "_law_blank", "_law_things", "_law_text", "_law_j", "_law_thing"] "law" (defScope (topS 23)) f cdv A outer s H E).env (cxOf (L2.CX P w) P w K mg base ["_law_script", "_law_town", "_law_k", "_law_font", "_law_height", "_law_gap", "_law_signs", "_law_blank", "_law_things", "_law_text", "_law_j", "_law_thing"] "law" (defScope (topS 23)) f cdv A outer s H E).xe := passes_of rfl
  exact ⟨_, (ms_cons (ms_town 1 hN)
    (ms_cons (ms_for [2, 3, 4, 5, 6, 7, 8, 9, 10, 11] (fun (e : D × D) (st : Unit) => [.va e.1, .va e.2, .no, .no, .no, .no, .no, .no, .no, .no, .no, .no]) (fun sl => match sl with | [.va p0, .va p1, .no, .no, .no, .no, .no, .no, .no, .no, .no, .no] => some ((p0, p1), ()) | _ => none) (fun e => l0_law e.1 e.2) hp (mi_range1 h.n_range (ma_cons m_int ma_nil) (cnt_cons cnt_nil)) (mgn 2 hN) (ms_cons (msv 3 hN (m_cal (h__law_drawn_font.mono (by omega)) rfl hr tk (ma_cons (m_var 0) (ma_cons (m_var 1) ma_nil)) (cnt_cons (cnt_cons cnt_nil))))
    (ms_cons (ms_asg (m_unk h.kt (m_var 3)) (mg_tup3 hc (mgn 4 hN) (mgn 5 hN) (mgn 6 hN)))
    (ms_cons (msv 7 hN (m_ix (r_of (m_var 6)) (r_of m_int)))
    (ms_cons (msv 8 hN (m_lst (n := 6) (ma_cons (m_unk h.kt (m_var 3)) (ma_cons (m_list (mr_cons (r_of (m_unk h.kt (m_var 3))) mr_nil) h.n_list) (ma_cons m_non (ma_cons (m_tup (n := 0) ma_nil cnt_nil) (ma_cons (m_tup (n := 2) (ma_cons (m_var 4) (ma_cons (m_var 5) ma_nil)) (cnt_cons (cnt_cons cnt_nil))) (ma_cons (m_tup (n := 3) (ma_cons (m_var 4) (ma_cons m_int (ma_cons (m_var 6) ma_nil))) (cnt_cons (cnt_cons (cnt_cons cnt_nil)))) ma_nil)))))) (cnt_c4 (cnt_cons (cnt_cons cnt_nil)))))
    (ms_cons (msv 8 hN (m_bin op_addM so_add ot_add (r_of (m_var 8)) (r_of (m_lst (n := 2) (ma_cons (m_tup (n := 3) (ma_cons (m_var 4) (ma_cons m_int (ma_cons (m_sl (r_of (m_var 6)) (mo_some m_int) mo_none) ma_nil))) (cnt_cons (cnt_cons (cnt_cons cnt_nil)))) (ma_cons (m_tup (n := 3) (ma_cons (m_var 4) (ma_cons m_int (ma_cons (m_rev (r_of (m_var 6))) ma_nil))) (cnt_cons (cnt_cons (cnt_cons cnt_nil)))) ma_nil)) (cnt_cons (cnt_cons cnt_nil))))))
    (ms_cons (msv 8 hN (m_bin op_addM so_add ot_add (r_of (m_var 8)) (r_of (m_lst (n := 2) (ma_cons (m_tup (n := 3) (ma_cons (m_var 4) (ma_cons (m_var 5) (ma_cons (m_bin op_addM so_add ot_add (r_of (m_var 6)) (r_of (m_sl (r_of (m_var 6)) (mo_some (m_neg m_int)) mo_none))) ma_nil))) (cnt_cons (cnt_cons (cnt_cons cnt_nil)))) (ma_cons (m_tup (n := 3) (ma_cons (m_bin op_addM so_add ot_add (r_of (m_var 4)) (r_of m_int)) (ma_cons (m_var 5) (ma_cons (m_var 6) ma_nil))) (cnt_cons (cnt_cons (cnt_cons cnt_nil)))) ma_nil)) (cnt_cons (cnt_cons cnt_nil))))))
    (ms_cons (msv 8 hN (m_bin op_addM so_add ot_add (r_of (m_var 8)) (r_of (m_lst (n := 2) (ma_cons (m_tup (n := 3) (ma_cons m_int (ma_cons (m_var 5) (ma_cons (m_tup (n := 0) ma_nil cnt_nil) ma_nil))) (cnt_cons (cnt_cons (cnt_cons cnt_nil)))) (ma_cons (m_tup (n := 3) (ma_cons (m_var 4) (ma_cons (m_var 5) (ma_cons (m_tup (n := 0) ma_nil cnt_nil) ma_nil))) (cnt_cons (cnt_cons (cnt_cons cnt_nil)))) ma_nil)) (cnt_cons (cnt_cons cnt_nil))))))
    (ms_cons (msv 8 hN (m_bin op_addM so_add ot_add (r_of (m_var 8)) (r_of (m_lst (n := 2) (ma_cons (m_tup (n := 3) (ma_cons m_int (ma_cons m_int (ma_cons (m_tup (n := 1) (ma_cons (m_tup (n := 2) (ma_cons m_str (ma_cons (m_tup (n := 1) (ma_cons m_str ma_nil) (cnt_cons cnt_nil)) ma_nil)) (cnt_cons (cnt_cons cnt_nil))) ma_nil) (cnt_cons cnt_nil)) ma_nil))) (cnt_cons (cnt_cons (cnt_cons cnt_nil)))) (ma_cons (m_tup (n := 3) (ma_cons m_int (ma_cons m_int (ma_cons (m_tup (n := 1) (ma_cons (m_tup (n := 2) (ma_cons m_str (ma_cons (m_tup (n := 1) (ma_cons m_str ma_nil) (cnt_cons cnt_nil)) ma_nil)) (cnt_cons (cnt_cons cnt_nil))) ma_nil) (cnt_cons cnt_nil)) ma_nil))) (cnt_cons (cnt_cons (cnt_cons cnt_nil)))) ma_nil)) (cnt_cons (cnt_cons cnt_nil))))))
    (ms_cons (msv 8 hN (m_bin op_addM so_add ot_add (r_of (m_var 8)) (r_of (m_lst (n := 2) (ma_cons (m_tup (n := 3) (ma_cons m_int (ma_cons m_int (ma_cons (m_tup (n := 1) (ma_cons (m_tup (n := 2) (ma_cons m_str (ma_cons (m_tup (n := 1) (ma_cons (m_bin op_mulS so_smul ot_smul (r_of m_str) (r_of m_int)) ma_nil) (cnt_cons cnt_nil)) ma_nil)) (cnt_cons (cnt_cons cnt_nil))) ma_nil) (cnt_cons cnt_nil)) ma_nil))) (cnt_cons (cnt_cons (cnt_cons cnt_nil)))) (ma_cons (m_tup (n := 3) (ma_cons m_int (ma_cons m_int (ma_cons (m_tup (n := 1) (ma_cons (m_tup (n := 2) (ma_cons m_str (ma_cons (m_tup (n := 1) (ma_cons (m_bin op_mulS so_smul ot_smul (r_of m_str) (r_of m_int)) ma_nil) (cnt_cons cnt_nil)) ma_nil)) (cnt_cons (cnt_cons cnt_nil))) ma_nil) (cnt_cons cnt_nil)) ma_nil))) (cnt_cons (cnt_cons (cnt_cons cnt_nil)))) ma_nil)) (cnt_cons (cnt_cons cnt_nil))))))
    (ms_cons (msv 8 hN (m_bin op_addM so_add ot_add (r_of (m_var 8)) (r_of (m_lst (n := 2) (ma_cons (m_tup (n := 3) (ma_cons m_int (ma_cons m_int (ma_cons (m_tup (n := 1) (ma_cons (m_tup (n := 2) (ma_cons m_str (ma_cons (m_tup (n := 2) (ma_cons m_str (ma_cons m_str ma_nil)) (cnt_cons (cnt_cons cnt_nil))) ma_nil)) (cnt_cons (cnt_cons cnt_nil))) ma_nil) (cnt_cons cnt_nil)) ma_nil))) (cnt_cons (cnt_cons (cnt_cons cnt_nil)))) (ma_cons (m_tup (n := 3) (ma_cons m_int (ma_cons m_int (ma_cons (m_tup (n := 1) (ma_cons (m_tup (n := 2) (ma_cons m_str (ma_cons (m_tup (n := 1) (ma_cons m_str ma_nil) (cnt_cons cnt_nil)) ma_nil)) (cnt_cons (cnt_cons cnt_nil))) ma_nil) (cnt_cons cnt_nil)) ma_nil))) (cnt_cons (cnt_cons (cnt_cons cnt_nil)))) ma_nil)) (cnt_cons (cnt_cons cnt_nil))))))
    (ms_cons (msv 8 hN (m_bin op_addM so_add ot_add (r_of (m_var 8)) (r_of (m_lst (n := 1) (ma_cons (m_tup (n := 3) (ma_cons m_int (ma_cons m_int (ma_cons (m_tup (n := 2) (ma_cons (m_tup (n := 2) (ma_cons m_str (ma_cons (m_tup (n := 1) (ma_cons m_str ma_nil) (cnt_cons cnt_nil)) ma_nil)) (cnt_cons (cnt_cons cnt_nil))) (ma_cons (m_tup (n := 2) (ma_cons m_str (ma_cons (m_tup (n := 1) (ma_cons m_str ma_nil) (cnt_cons cnt_nil)) ma_nil)) (cnt_cons (cnt_cons cnt_nil))) ma_nil)) (cnt_cons (cnt_cons cnt_nil))) ma_nil))) (cnt_cons (cnt_cons (cnt_cons cnt_nil)))) ma_nil) (cnt_cons cnt_nil)))))
    (ms_cons (msv 8 hN (m_bin op_addM so_add ot_add (r_of (m_var 8)) (r_of (m_lst (n := 1) (ma_cons (m_tup (n := 3) (ma_cons m_int (ma_cons m_int (ma_cons (m_tup (n := 2) (ma_cons (m_tup (n := 2) (ma_cons m_str (ma_cons (m_tup (n := 1) (ma_cons m_str ma_nil) (cnt_cons cnt_nil)) ma_nil)) (cnt_cons (cnt_cons cnt_nil))) (ma_cons (m_tup (n := 2) (ma_cons m_str (ma_cons (m_tup (n := 1) (ma_cons m_str ma_nil) (cnt_cons cnt_nil)) ma_nil)) (cnt_cons (cnt_cons cnt_nil))) ma_nil)) (cnt_cons (cnt_cons cnt_nil))) ma_nil))) (cnt_cons (cnt_cons (cnt_cons cnt_nil)))) ma_nil) (cnt_cons cnt_nil)))))
    (ms_cons (msv 8 hN (m_bin op_addM so_add ot_add (r_of (m_var 8)) (r_of (m_lst (n := 2) (ma_cons (m_tup (n := 3) (ma_cons m_int (ma_cons m_int (ma_cons (m_tup (n := 2) (ma_cons (m_tup (n := 2) (ma_cons m_str (ma_cons (m_tup (n := 1) (ma_cons m_str ma_nil) (cnt_cons cnt_nil)) ma_nil)) (cnt_cons (cnt_cons cnt_nil))) (ma_cons (m_tup (n := 2) (ma_cons m_str (ma_cons (m_tup (n := 1) (ma_cons m_str ma_nil) (cnt_cons cnt_nil)) ma_nil)) (cnt_cons (cnt_cons cnt_nil))) ma_nil)) (cnt_cons (cnt_cons cnt_nil))) ma_nil))) (cnt_cons (cnt_cons (cnt_cons cnt_nil)))) (ma_cons (m_tup (n := 3) (ma_cons m_int (ma_cons m_int (ma_cons (m_tup (n := 1) (ma_cons (m_tup (n := 2) (ma_cons m_str (ma_cons m_str ma_nil)) (cnt_cons (cnt_cons cnt_nil))) ma_nil) (cnt_cons cnt_nil)) ma_nil))) (cnt_cons (cnt_cons (cnt_cons cnt_nil)))) ma_nil)) (cnt_cons (cnt_cons cnt_nil))))))
    (ms_cons (msv 8 hN (m_bin op_addM so_add ot_add (r_of (m_var 8)) (r_of (m_lc hc hN (mi_range1 h.n_range (ma_cons m_int ma_nil) (cnt_cons cnt_nil)) (own := [("_law_j", 10)]) (blkOk_by (by kernel_rfl)) (by decide) (fun _ _ _ _ _ => (mgn 10 hN)) (fun _ _ _ _ _ => (m_cal (h__law_bent.mono (by omega)) rfl hr takes0 (ma_cons (m_var 0) (ma_cons (m_var 1) (ma_cons (m_unk h.kt (m_var 3)) ma_nil))) (cnt_cons (cnt_cons (cnt_cons cnt_nil)))))))))
    (ms_cons (ms_if (mt_not (mt_truth (r_of (m_all hc (mr_cons (r_of (m_lc hc hN (mi_of (m_var 8)) (own := [("_law_thing", 11)]) (blkOk_by (by kernel_rfl)) (by decide) (fun _ _ _ _ _ => (mgn 11 hN)) (fun _ _ _ _ _ => (m_cal (h__law_same.mono (by omega)) rfl hr takes0 (ma_cons (m_cal (h_is_font.mono (by omega)) rfl hr takes0 (ma_cons (m_var 11) ma_nil) (cnt_cons cnt_nil)) (ma_cons (m_cal (h__law_is_font.mono (by omega)) rfl hr takes0 (ma_cons (m_var 11) ma_nil) (cnt_cons cnt_nil)) ma_nil)) (cnt_cons (cnt_cons cnt_nil)))))) mr_nil) h.n_all)))) (ms_one (ms_ret (r_of m_bl))) ms_nil)
    (ms_cons (msv 9 hN (m_replK (m_cal (h__law_drawn_text.mono (by omega)) rfl hr tk (ma_cons (m_var 0) (ma_cons (m_var 1) (ma_cons m_int ma_nil))) (cnt_cons (cnt_cons (cnt_cons cnt_nil)))) tick_call3))
    (ms_cons (ms_if (mt_w (mw_or (mt_not (mt_truth (r_of (m_cal (h__law_same.mono (by omega)) rfl hr tk (ma_cons (m_cal (h__law_measured.mono (by omega)) rfl hr tk (ma_cons (m_unk h.kt (m_var 3)) (ma_cons (m_var 9) ma_nil)) (cnt_cons (cnt_cons cnt_nil))) (ma_cons (m_cal (h__law_wide.mono (by omega)) rfl hr tk (ma_cons (m_var 3) (ma_cons (m_var 9) ma_nil)) (cnt_cons (cnt_cons cnt_nil))) ma_nil)) (cnt_cons (cnt_cons cnt_nil)))))) (mw_or1 (mt_cmp (op_neM hu) so_ne ot_ne (r_of (m_cal (h_measured.mono (by omega)) rfl hr tk (ma_cons (m_unk h.kt (m_var 3)) (ma_cons m_str ma_nil)) (cnt_cons (cnt_cons cnt_nil)))) (r_of m_int))))) (ms_one (ms_ret (r_of m_bl))) ms_nil)
    (ms_cons (ms_if (mt_cmp (op_neM hu) so_ne ot_ne (r_of (m_cal (h__law_measured.mono (by omega)) rfl hr tk (ma_cons (m_unk h.kt (m_var 3)) (ma_cons (m_bin op_addM so_add ot_add (r_of (m_var 9)) (r_of m_str)) ma_nil)) (cnt_cons (cnt_cons cnt_nil)))) (r_of m_str)) (ms_one (ms_ret (r_of m_bl))) ms_nil)
    (ms_one (ms_if (mt_cmp (op_neM hu) so_ne ot_ne (r_of (m_cal (h__law_measured.mono (by omega)) rfl hr tk (ma_cons (m_unk h.kt (m_var 3)) (ma_cons (m_ix (r_of (m_var 7)) (r_of m_int)) ma_nil)) (cnt_cons (cnt_cons cnt_nil)))) (r_of (m_len (mr_cons (r_of (m_ix (r_of (m_ix (r_of (m_var 7)) (r_of m_int))) (r_of m_int))) mr_nil) h.n_len))) (ms_one (ms_ret (r_of m_bl))) ms_nil)))))))))))))))))))) (by intros; kernel_rfl) (by intro sl e st h; (try dsimp only at h); split at h <;> cases h <;> rfl))
    (ms_one (ms_ret (r_of m_bl))))), fun ds hl => match ds, hl with | [_], _ => by kernel_rfl⟩
end
theorem all_ok {w : World} {K : PySem.W.Frag} {mg : Str → Option Value} {fa : Addr} (h : Hd K mg) (hfa : mg "law" = some (.ref fa)) (hm : ∀ ns : List Int, ns.length ≤ 63 → ∃ w', m_law [.scr ns] ⟨none, []⟩ = .ok (.bl true) w') :
    ∃ fd : FuncData, (∀ (s : Shared) (u : Value), BindsTo s fd ⟨[u], []⟩ [("_law_script", u)]) ∧ ∀ base : Heap, K.In base → base.Ns mainGlobals mg → TBs K mg base → FnOk PySem.Challenge.pw_paintyard_k21_fonts_told w K mg base (L2.CX PySem.Challenge.pw_paintyard_k21_fonts_told w) 15 fa fd ["_law_script"] (spLaw K) := by
  refine law_of (k := 14) hfa h.d_law sc_law hm fun base _ _ h_tbs => ?_
  have h__law_draw := c__law_draw (P := PySem.Challenge.pw_paintyard_k21_fonts_told) (w := w) (base := base) h 
  have h__law_pick := c__law_pick (P := PySem.Challenge.pw_paintyard_k21_fonts_told) (w := w) (base := base) h h__law_draw
  have h__law_drawn_font := c__law_drawn_font (P := PySem.Challenge.pw_paintyard_k21_fonts_told) (w := w) (base := base) h h__law_draw h__law_pick
  have h__law_bent := c__law_bent (P := PySem.Challenge.pw_paintyard_k21_fonts_told) (w := w) (base := base) h h__law_draw h__law_pick
  have h__law_same := c__law_same (P := PySem.Challenge.pw_paintyard_k21_fonts_told) (w := w) (base := base) h 
  have h__law_whole := c__law_whole (P := PySem.Challenge.pw_paintyard_k21_fonts_told) (w := w) (base := base) h 
  have h__law_is_glyph := c__law_is_glyph (P := PySem.Challenge.pw_paintyard_k21_fonts_told) (w := w) (base := base) h 
  have h__law_is_font := c__law_is_font (P := PySem.Challenge.pw_paintyard_k21_fonts_told) (w := w) (base := base) h h__law_whole h__law_is_glyph
  have h_is_whole := c_is_whole (P := PySem.Challenge.pw_paintyard_k21_fonts_told) (w := w) (base := base) h 
  have h_is_glyph := c_is_glyph (P := PySem.Challenge.pw_paintyard_k21_fonts_told) (w := w) (base := base) h 
  have h_is_font := c_is_font (P := PySem.Challenge.pw_paintyard_k21_fonts_told) (w := w) (base := base) h h_is_whole h_is_glyph
  have h__law_drawn_text := c__law_drawn_text (P := PySem.Challenge.pw_paintyard_k21_fonts_told) (w := w) (base := base) h h__law_draw h__law_pick
  have h__law_wide := c__law_wide (P := PySem.Challenge.pw_paintyard_k21_fonts_told) (w := w) (base := base) h 
  have h_rows_for := c_rows_for (P := PySem.Challenge.pw_paintyard_k21_fonts_told) (w := w) (base := base) h 
  have h_measured := c_measured (P := PySem.Challenge.pw_paintyard_k21_fonts_told) (w := w) (base := base) h h_rows_for
  have h__law_measured := c__law_measured (P := PySem.Challenge.pw_paintyard_k21_fonts_told) (w := w) (base := base) h h_measured
  exact body_law h h__law_drawn_font h__law_bent h__law_is_font h_is_font h__law_same h__law_drawn_text h__law_wide h__law_measured h_measured
end Lw

namespace Lw
open PySem Pm
open Rl
def SO (x : Str) : Prop := PyData.strOk x = true ∧ x.length ≤ 1000
inductive PL : Nat → D → Prop
  | non {n : Nat} : PL n .non
  | bl {n : Nat} (b : Bool) : PL n (.bl b)
  | int {n : Nat} (i : Int) : PL n (.int i)
  | str {n : Nat} {x : Str} (h : SO x) : PL n (.str x)
  | tup {n : Nat} {l : List D} : l.length ≤ 1000 → (∀ x ∈ l, PL n x) → PL (n + 1) (.tup l)
  | lst {n : Nat} {l : List D} : l.length ≤ 1000 → (∀ x ∈ l, PL n x) → PL (n + 1) (.lst l)
theorem PL.plain {n : Nat} {d : D} (h : PL n d) : plainD d = true := by cases h <;> rfl
theorem PL.up : ∀ {n : Nat} {d : D}, PL n d → PL (n + 1) d
  | _, _, .non => .non
  | _, _, .bl _ => .bl _
  | _, _, .int _ => .int _
  | _, _, .str h => .str h
  | _ + 1, _, .tup z h => .tup z fun x hx => (h x hx).up
  | _ + 1, _, .lst z h => .lst z fun x hx => (h x hx).up
theorem PL.le {n m : Nat} {d : D} (h : PL n d) (l : n ≤ m) : PL m d := by
  induction m with
  | zero => cases Nat.le_zero.mp l; exact h
  | succ m ih =>
    rcases Nat.lt_or_ge n (m + 1) with q | q
    · exact (ih (by omega)).up
    · cases Nat.le_antisymm l q; exact h
theorem PL.of_tup {n : Nat} {l : List D} (h : PL n (.tup l)) : ∀ x ∈ l, PL n x := by
  cases h with | tup z h => exact fun x hx => (h x hx).up
theorem PL.okd : ∀ {n : Nat} {d : D}, PL n d → Pm.okd n d = true
  | _, _, .non => by unfold Pm.okd; rfl
  | _, _, .bl _ => by unfold Pm.okd; rfl
  | _, _, .int _ => okd_int _ _
  | _, _, .str h => by unfold Pm.okd; exact h.1
  | _ + 1, _, .tup z h => by rw [okd_tup, List.all_eq_true]; exact fun x hx => (h x hx).okd
  | _ + 1, _, .lst z h => by rw [okd_lst, List.all_eq_true]; exact fun x hx => (h x hx).okd
def PLs (n : Nat) (l : List D) : Prop := ∀ x ∈ l, PL n x
theorem PLs.nil {n : Nat} : PLs n [] := fun _ h => nomatch h
theorem PLs.cons {n : Nat} {d : D} {l : List D} (h : PL n d) (r : PLs n l) : PLs n (d :: l) := fun x hx => by
  rcases List.mem_cons.mp hx with rfl | hx
  · exact h
  · exact r x hx
theorem PLs.app {n : Nat} {l m : List D} (h : PLs n l) (r : PLs n m) : PLs n (l ++ m) := fun x hx => by
  rcases List.mem_append.mp hx with hx | hx
  · exact h x hx
  · exact r x hx
theorem PLs.cut {n : Nat} {l : List D} (h : PLs n l) (i j : Option Int) : PLs n (cutL l i j) := fun x hx => by
  unfold cutL at hx
  exact h x (List.mem_of_mem_drop (List.mem_of_mem_take hx))
theorem cut_len {l : List D} (i j : Option Int) : (cutL l i j).length ≤ l.length := by
  unfold cutL
  rw [List.length_take, List.length_drop]; omega

def partB (lo hi : Int) : D → Bool
  | .int i => decide (lo ≤ i) && decide (i ≤ hi)
  | _ => false
theorem whole_eq {n : Nat} {d : D} (h : PL n d) (lo hi : Int) : m__law_whole [d, .int lo, .int hi] = M.pure (.bl (partB lo hi d)) := by
  show p__law_whole _ _ _ = _
  unfold p__law_whole
  rw [f_isi, f_isi, isi_int' h.plain, isi_bool' h.plain]
  cases h with
  | int i =>
    show fChain leD leD (M.pure (.int lo)) (M.pure (.int i)) (M.pure (.int hi)) = M.pure (.bl (decide (lo ≤ i) && decide (i ≤ hi)))
    rw [f_chain, o_le, opt_some, Pm.pure_bind, bl_bl, opt_some, Pm.pure_bind]
    by_cases q : lo ≤ i
    · rw [decide_eq_true q]; rfl
    · rw [decide_eq_false q]; rfl
  | _ => rfl
theorem iswhole_eq {n : Nat} {d : D} (h : PL n d) : m_is_whole [d] = M.pure (.bl (isiInt d && !isiBool d)) := by
  show p_is_whole _ = _
  unfold p_is_whole
  rw [f_isi, f_isi, isi_int' h.plain, isi_bool' h.plain]
  cases h <;> rfl
theorem all_eq {f : D → M D} {g : D → Bool} {l : List D} (h : ∀ x ∈ l, f x = M.pure (.bl (g x))) : fCB allF (fCons (fLC (M.pure l) f) fNil) = M.pure (.bl (l.all g)) := by
  have e := map_of (f := f) (E := id) (g := fun x => .bl (g x)) (l := l) h
  rw [List.map_id] at e
  rw [f_lc, e, Pm.pure_bind, f_nil, f_cons, f_cb, b_all, bls_of]
  show M.pure (D.bl ((l.map g).all id)) = _
  rw [List.all_map]; rfl
theorem ixT {l : List D} (i : Int) : fBin ixD (M.pure (.tup l)) (M.pure (.int i)) = M.opt (L2.atI l i) := rfl
def letters (x : Str) : List D := x.cps.toList.map fun c => .str ⟨#[c]⟩
theorem letters_of {x : Str} (h : SO x) : fItems (M.pure (.str x)) = M.pure (letters x) := by
  rw [f_items]
  show M.opt (if x.cps.toList.length ≤ sizeLine then some (letters x) else none) = _
  rw [if_pos (by have h2 : x.cps.size ≤ 1000 := h.2; rw [sizeIs, Array.length_toList]; omega)]; rfl
theorem len_str {x : Str} (h : SO x) : fCB lenF (fCons (M.pure (.str x)) fNil) = M.pure (.int x.length) := by
  show M.opt (if x.length ≤ sizeLine then some (D.int x.length) else none) = _
  rw [if_pos (by have := h.2; rw [sizeIs]; omega)]; rfl

def Yl (m : M D) (P : D → Prop) : Prop := ∃ d, m = M.pure d ∧ P d
def YlL (m : M (List D)) (k n : Nat) : Prop := ∃ l, m = M.pure l ∧ l.length = n ∧ PLs k l
def LsN (k n : Nat) (d : D) : Prop := ∃ l, d = .lst l ∧ l.length = n ∧ PLs k l
theorem yll_nil {k : Nat} : YlL fNil k 0 := ⟨[], rfl, rfl, .nil⟩
theorem yll_cons {x : M D} {g : M (List D)} {k n : Nat} (hx : Yl x (PL k)) (hg : YlL g k n) : YlL (fCons x g) k (n + 1) := by
  obtain ⟨d, rfl, hd⟩ := hx
  obtain ⟨l, rfl, hl, hp⟩ := hg
  exact ⟨d :: l, rfl, by simp [hl], hp.cons hd⟩
theorem yl_tup {g : M (List D)} {k n : Nat} (hg : YlL g k n) (hn : n ≤ 1000 := by decide) : Yl (fTup g) (PL (k + 1)) := by
  obtain ⟨l, rfl, hl, hp⟩ := hg
  exact ⟨.tup l, rfl, .tup (by omega) hp⟩
theorem yl_lst {g : M (List D)} {k n : Nat} (hg : YlL g k n) (hn : n ≤ 1000 := by decide) : Yl (fLst g) (PL (k + 1)) := by
  obtain ⟨l, rfl, hl, hp⟩ := hg
  exact ⟨.lst l, rfl, .lst (by omega) hp⟩
theorem yl_ls {g : M (List D)} {k n : Nat} (hg : YlL g k n) : Yl (fLst g) (LsN k n) := by
  obtain ⟨l, rfl, hl, hp⟩ := hg
  exact ⟨.lst l, rfl, l, rfl, hl, hp⟩
theorem yl_pure {k : Nat} {d : D} (h : PL k d) : Yl (M.pure d) (PL k) := ⟨d, rfl, h⟩
theorem yl_neg {k : Nat} (i : Int) : Yl (fNeg (M.pure (.int i))) (PL k) := ⟨.int (-i), rfl, .int _⟩
theorem yl_add {x y : M D} {k a b : Nat} (hx : Yl x (LsN k a)) (hy : Yl y (LsN k b)) (h : a + b ≤ 1000) : Yl (fBin addD x y) (LsN k (a + b)) := by
  obtain ⟨_, rfl, l, rfl, hl, pl⟩ := hx
  obtain ⟨_, rfl, m, rfl, hm, pm⟩ := hy
  exact ⟨.lst (l ++ m), by rw [f_bin, o_addL (by omega)]; rfl, l ++ m, rfl, by simp [hl, hm], pl.app pm⟩
theorem Dr.yl {α : Type} {k : Nat} {m : M D} {P : D → Prop} {f : D → M α} {Q : α → Prop} (h : Yl m P) (hf : ∀ d, P d → Dr k (f d) Q) : Dr k (m.bind f) Q := by
  obtain ⟨d, rfl, hd⟩ := h
  rw [Pm.pure_bind]
  exact hf d hd
inductive NT : Nat → D → Prop
  | int {n : Nat} {i : Int} : -1000 ≤ i → i ≤ 1000 → NT n (.int i)
  | bl {n : Nat} (b : Bool) : NT n (.bl b)
  | str {n : Nat} {x : Str} : SO x → NT n (.str x)
  | tup {n : Nat} {l : List D} : l.length ≤ 200 → (∀ x ∈ l, NT n x) → NT (n + 1) (.tup l)
theorem NT.pl : ∀ {n : Nat} {d : D}, NT n d → PL n d
  | _, _, .int _ _ => .int _
  | _, _, .bl _ => .bl _
  | _, _, .str h => .str h
  | n + 1, _, .tup z h => .tup (by omega) fun x hx => (h x hx).pl
theorem NT.up : ∀ {n : Nat} {d : D}, NT n d → NT (n + 1) d
  | _, _, .int h h' => .int h h'
  | _, _, .bl _ => .bl _
  | _, _, .str h => .str h
  | n + 1, _, .tup l h => .tup l fun x hx => (h x hx).up
theorem NT.le {n m : Nat} {d : D} (h : NT n d) (l : n ≤ m) : NT m d := by
  induction m with
  | zero => cases Nat.le_zero.mp l; exact h
  | succ m ih =>
    rcases Nat.lt_or_ge n (m + 1) with q | q
    · exact (ih (by omega)).up
    · cases Nat.le_antisymm l q; exact h
theorem dr_pickP {ns : List Int} (hn : ns.length ≤ 63) {k n : Nat} {d : D} (h : LsN k (n + 1) d) : Dr 2 (m__law_pick [.scr ns, .town, d]) (PL k) := by
  obtain ⟨l, rfl, hl, hp⟩ := h
  exact (dr_pick hn (by intro z; subst z; cases hl)).imp fun a ha => hp a ha
theorem so_int {i : Int} (h0 : -1000 ≤ i) (h1 : i ≤ 1000) : SO (Str.ofString (toString i)) := by
  have all : ∀ k : Fin 2001, PyData.strOk (Str.ofString (toString ((k.val : Int) - 1000))) = true ∧ (Str.ofString (toString ((k.val : Int) - 1000))).length ≤ 1000 := by decide +kernel
  have := all ⟨(i + 1000).toNat, by omega⟩
  have e : (((i + 1000).toNat : Nat) : Int) - 1000 = i := by omega
  simp only [e] at this
  exact this
theorem yl_str {k : Nat} {i : Int} (h0 : -1000 ≤ i) (h1 : i ≤ 1000) : Yl (fCB strB (fCons (M.pure (.int i)) fNil)) (PL k) := by
  refine ⟨.str (Str.ofString (toString i)), ?_, .str (so_int h0 h1)⟩
  have : i.natAbs.log2 < 1920 := by
    have : i.natAbs < 2 ^ 11 := by omega
    by_cases z : i.natAbs = 0
    · rw [z]; decide
    · have := (Nat.log2_lt z).mpr this
      omega
  show M.opt (if i.natAbs.log2 < 1920 then some (D.str (toString i)) else none) = _
  rw [if_pos this]; rfl
theorem j2_num {ns : List Int} (hn : ns.length ≤ 63) {d : D} (hd : isiInt d = true) (hp : plainD d = true) {k : Nat} (e1 : Yl (fBin addB (M.pure d) (M.pure (D.int 1))) (PL (k + 1))) (e2 : Yl (fBin subB (M.pure d) (M.pure (D.int 1))) (PL (k + 1))) (e3 : Yl (fNot (M.pure d)) (PL (k + 1))) (e4 : PL k d) (e5 : Yl (fCB strB (fCons (M.pure d) fNil)) (PL (k + 1))) {n : Nat} {s : D} (hs : LsN (k + 1) (n + 1) s) (hz : n ≤ 100) : Dr 2 (j2__law_bent (.scr ns) .town d s) (PL (k + 1)) := by
  unfold j2__law_bent j1__law_bent
  rw [f_isi, isi_int' hp, opt_some, Pm.pure_bind, hd, f_tru, t_bl, opt_some, f_if, if_pos rfl]
  have e4' : Yl (fTup (fCons (M.pure d) fNil)) (PL (k + 1)) := yl_tup (yll_cons (yl_pure e4) yll_nil)
  have h5 : Yl (fBin mulD (fLst (fCons (fBin addB (M.pure d) (M.pure (D.int 1))) (fCons (fBin subB (M.pure d) (M.pure (D.int 1))) (fCons (fNot (M.pure d)) (fCons (fTup (fCons (M.pure d) fNil)) (fCons (fCB strB (fCons (M.pure d) fNil)) fNil)))))) (M.pure (D.int 2))) (LsN (k + 1) 10) := by
    obtain ⟨_, e, l, rfl, hl, hp⟩ := yl_ls (yll_cons e1 (yll_cons e2 (yll_cons e3 (yll_cons e4' (yll_cons e5 yll_nil)))))
    rw [e]
    refine ⟨.lst (l ++ l), ?_, l ++ l, rfl, by simp [hl], hp.app hp⟩
    have e6 : mulD (.lst l) (.int 2) = some (.lst (List.replicate 2 l).flatten) := if_pos ⟨by decide, by decide, by rw [hl, sizeIs]; decide⟩
    rw [f_bin, e6, opt_some]
    simp [List.replicate]
  refine Dr.yl (yl_add ⟨s, rfl, hs⟩ h5 (by omega)) fun d hd => ?_
  rw [show fCall m__law_pick (fCons (M.pure (.scr ns)) (fCons (M.pure .town) (fCons (M.pure d) fNil))) = m__law_pick [.scr ns, .town, d] from rfl]
  exact dr_pickP hn (n := n + 10) (by rw [show n + 10 + 1 = n + 1 + 10 by omega]; exact hd)
theorem j2_no {ns : List Int} (hn : ns.length ≤ 63) {d : D} (hd : isiInt d = false) (hp : plainD d = true) {k n : Nat} {s : D} (hs : LsN k (n + 1) s) : Dr 2 (j2__law_bent (.scr ns) .town d s) (PL k) := by
  unfold j2__law_bent j1__law_bent
  rw [f_isi, isi_int' hp, opt_some, Pm.pure_bind, hd, f_tru, t_bl, opt_some, f_if, if_neg (by simp)]
  rw [show fCall m__law_pick (fCons (M.pure (.scr ns)) (fCons (M.pure .town) (fCons (M.pure s) fNil))) = m__law_pick [.scr ns, .town, s] from rfl]
  exact dr_pickP hn hs
theorem j2_sc {ns : List Int} (hn : ns.length ≤ 63) {m : Nat} {d : D} (hd : NT m d) (ht : isiTup d = false) {k n : Nat} {s : D} (hs : LsN (k + 1) (n + 1) s) (hz : n ≤ 100) : Dr 2 (j2__law_bent (.scr ns) .town d s) (PL (k + 1)) := by
  cases hd with
  | @int _ i h0 h1 => exact j2_num hn rfl rfl ⟨_, rfl, .int (i + 1)⟩ ⟨_, rfl, .int (i - 1)⟩ ⟨_, rfl, .bl (!(i != 0))⟩ (.int i) (yl_str h0 h1) hs hz
  | bl b => exact j2_num hn rfl rfl ⟨_, rfl, .int ((if b = true then 1 else 0) + 1)⟩ ⟨_, rfl, .int ((if b = true then 1 else 0) - 1)⟩ ⟨_, rfl, .bl (!b)⟩ (.bl b) ⟨_, rfl, .str (by cases b <;> exact ⟨by kernel_rfl, by decide⟩)⟩ hs hz
  | str h => exact j2_no hn rfl rfl hs
  | tup _ _ => cases ht
theorem addT {l m : List D} (h : l.length + m.length ≤ 1000) : fBin addD (M.pure (.tup l)) (M.pure (.tup m)) = M.pure (.tup (l ++ m)) := by rw [f_bin, o_addT (by omega)]; rfl
theorem slT (l : List D) (i j : Option Int) : fSl (M.pure (.tup l)) (M.pure i) (M.pure j) = M.pure (.tup (cutL l i j)) := rfl
theorem at_nat {l : List D} {r : Int} (h0 : 0 ≤ r) (h1 : r < l.length) : ∃ x ∈ l, fBin ixD (M.pure (.tup l)) (M.pure (.int r)) = M.pure x := by
  obtain ⟨x, hx, e⟩ := atI_mem h0 h1
  exact ⟨x, hx, by rw [ixT, e]; rfl⟩
theorem of_bin {o : D → D → Option D} (m : M D) (z : D) : fOf (fBin o m (M.pure z)) = m.bind fun d => fOf (fBin o (M.pure d) (M.pure z)) := by
  unfold fOf fBin
  rw [Pm.bind_assoc]; rfl
theorem fill (A B : List D) (m : M D) : fBin addD (fBin addD (M.pure (.tup A)) (fTup (fCons m fNil))) (M.pure (.tup B)) = m.bind fun d => fBin addD (fBin addD (M.pure (.tup A)) (M.pure (.tup [d]))) (M.pure (.tup B)) := by
  simp only [fBin, fTup, fCons, fNil, Pm.bind_assoc, Pm.pure_bind]
theorem draw_eq0 {ns : List Int} (hn : ns.length ≤ 63) {m : Int} (hm : 0 < m) : Dr 2 (fOf (fBin eqD (m__law_draw [.scr ns, .town, .int m]) (M.pure (.int 0)))) (fun _ => True) := by
  rw [of_bin]
  refine Dr.then 2 (dr_draw hn hm) (by omega) fun d ⟨r, e, _⟩ => ?_
  subst e
  rw [f_bin, o_eq, opt_some, f_of]
  exact .pure trivial
theorem bent_list {ns : List Int} (hn : ns.length ≤ 63) {l : List D} {k : Nat} (h1 : l.length ≤ 200) (hp : PLs k l) {s : D} (hs : LsN (k + 1) 19 s) : Dr 2 ((fBin addD (M.pure s) (fLst (fCons (fCB lstF (fCons (M.pure (.tup l)) fNil)) (fCons (fSl (M.pure (.tup l)) fONo (fOSo (fNeg (M.pure (D.int 1))))) (fCons (fBin addD (M.pure (.tup l)) (fSl (M.pure (.tup l)) (fOSo (fNeg (M.pure (D.int 1)))) fONo)) (fCons (fSl (M.pure (.tup l)) (fOSo (M.pure (D.int 1))) fONo) (fCons (fRev (M.pure (.tup l))) (fCons (fBin addD (M.pure (.tup l)) (fTup (fCons (M.pure D.non) fNil))) fNil)))))))).bind fun s' => j2__law_bent (.scr ns) .town (.tup l) s') (PL (k + 1)) := by
  have a1 : Yl (fCB lstF (fCons (M.pure (.tup l)) fNil)) (PL (k + 1)) := ⟨.lst l, rfl, .lst (by omega) hp⟩
  have a2 : Yl (fSl (M.pure (.tup l)) fONo (fOSo (fNeg (M.pure (D.int 1))))) (PL (k + 1)) := ⟨_, rfl, .tup (by have := cut_len (l := l) none (some (-1)); omega) (hp.cut none (some (-1)))⟩
  have a3 : Yl (fBin addD (M.pure (.tup l)) (fSl (M.pure (.tup l)) (fOSo (fNeg (M.pure (D.int 1)))) fONo)) (PL (k + 1)) := ⟨.tup (l ++ cutL l (some (-1)) none), addT (by have := cut_len (l := l) (some (-1)) none; omega), .tup (by have := cut_len (l := l) (some (-1)) none; rw [List.length_append]; omega) (hp.app (hp.cut _ _))⟩
  have a4 : Yl (fSl (M.pure (.tup l)) (fOSo (M.pure (D.int 1))) fONo) (PL (k + 1)) := ⟨_, rfl, .tup (by have := cut_len (l := l) (some 1) none; omega) (hp.cut (some 1) none)⟩
  have a5 : Yl (fRev (M.pure (.tup l))) (PL (k + 1)) := ⟨.tup l.reverse, rfl, .tup (by rw [List.length_reverse]; omega) fun x hx => hp x (List.mem_reverse.mp hx)⟩
  have a6 : Yl (fBin addD (M.pure (.tup l)) (fTup (fCons (M.pure D.non) fNil))) (PL (k + 1)) := ⟨.tup (l ++ [.non]), addT (by simp; omega), .tup (by simp; omega) (hp.app (PLs.cons .non PLs.nil))⟩
  refine Dr.yl (P := LsN (k + 1) 25) (yl_add ⟨s, rfl, hs⟩ (yl_ls (yll_cons a1 (yll_cons a2 (yll_cons a3 (yll_cons a4 (yll_cons a5 (yll_cons a6 yll_nil))))))) (by decide)) fun s hs => ?_
  exact j2_no hn rfl rfl hs
theorem dr_bent {ns : List Int} (hn : ns.length ≤ 63) : ∀ (n f : Nat) (d : D), NT n d → n < f → Dr (4 * (n + 1)) (m__law_bent f [.scr ns, .town, d]) (PL (n + 1))
  | n, f + 1, d, hd, hf => by
    show Dr _ (p__law_bent (m__law_bent f) (.scr ns) .town d) (PL (n + 1))
    unfold p__law_bent
    cases ht : isiTup d with
    | false =>
      rw [f_isi, isi_tup' hd.pl.plain, ht, opt_some, Pm.pure_bind, f_tru, t_bl, opt_some, f_notB, f_orB, Bool.not_false, if_pos rfl, f_if, if_pos rfl]
      refine Dr.yl (P := LsN (n + 1) 16) (yl_ls (by ((repeat' (first | assumption | exact yll_nil | apply yll_cons | apply yl_tup | apply yl_lst | exact yl_pure .non | exact yl_pure (.bl _) | exact yl_pure (.int _) | exact yl_pure (.str ⟨by kernel_rfl, by decide⟩) | exact yl_neg _ | exact yl_pure (PL.le (by assumption) (by omega))))) <;> (show (_ : Nat) ≤ 1000; decide))) fun s hs => ?_
      refine Dr.yl (P := LsN (n + 1) 19) (yl_add ⟨s, rfl, hs⟩ (yl_ls (n := 3) (by ((repeat' (first | assumption | exact yll_nil | apply yll_cons | apply yl_tup | apply yl_lst | exact yl_pure .non | exact yl_pure (.bl _) | exact yl_pure (.int _) | exact yl_pure (.str ⟨by kernel_rfl, by decide⟩) | exact yl_neg _ | exact yl_pure (PL.le (by assumption) (by omega))))) <;> (show (_ : Nat) ≤ 1000; decide))) (by decide)) fun s hs => ?_
      rw [f_if, if_neg (by simp)]
      exact (j2_sc hn hd ht hs (by decide)).more (by omega)
    | true =>
      cases hd with
      | int _ _ => cases ht
      | bl _ => cases ht
      | str _ => cases ht
      | @tup n l h1 h2 =>
        have hp : PLs n l := fun x hx => (h2 x hx).pl
        rw [f_isi, isi_tup' rfl, ht, opt_some, Pm.pure_bind, f_tru, t_bl, opt_some, f_notB, f_orB, Bool.not_true, if_neg (by simp), f_tru, t_tup, opt_some, f_notB, f_orB, show fCall m__law_draw (fCons (M.pure (.scr ns)) (fCons (M.pure .town) (fCons (M.pure (.int 4)) fNil))) = m__law_draw [.scr ns, .town, .int 4] from rfl]
        have one : Dr 2 ((fLst (fCons (M.pure D.non) (fCons (M.pure (D.bl true)) (fCons (M.pure (D.bl false)) (fCons (M.pure (D.int 0)) (fCons (M.pure (D.int 1)) (fCons (fNeg (M.pure (D.int 1))) (fCons (M.pure (D.int 255)) (fCons (M.pure (D.int 256)) (fCons (M.pure (D.int 99)) (fCons (M.pure (D.int 100)) (fCons (M.pure (D.str "to")) (fCons (M.pure (D.str "by")) (fCons (M.pure (D.str "")) (fCons (M.pure (D.str "A")) (fCons (fTup fNil) (fCons (fLst fNil) fNil))))))))))))))))).bind fun s0 => (fBin addD (M.pure s0) (fLst (fCons (fTup (fCons (M.pure (D.int 0)) (fCons (M.pure (D.int 0)) fNil))) (fCons (fTup (fCons (M.pure (D.int 1)) (fCons (M.pure (D.int 2)) (fCons (M.pure (D.int 3)) (fCons (M.pure (D.int 4)) fNil))))) (fCons (M.pure (D.str "plain")) fNil))))).bind fun s1 => fIf (M.pure true) ((fBin addD (M.pure s1) (fLst (fCons (fCB lstF (fCons (M.pure (.tup l)) fNil)) (fCons (fSl (M.pure (.tup l)) fONo (fOSo (fNeg (M.pure (D.int 1))))) (fCons (fBin addD (M.pure (.tup l)) (fSl (M.pure (.tup l)) (fOSo (fNeg (M.pure (D.int 1)))) fONo)) (fCons (fSl (M.pure (.tup l)) (fOSo (M.pure (D.int 1))) fONo) (fCons (fRev (M.pure (.tup l))) (fCons (fBin addD (M.pure (.tup l)) (fTup (fCons (M.pure D.non) fNil))) fNil)))))))).bind fun s' => j2__law_bent (.scr ns) .town (.tup l) s') (j2__law_bent (.scr ns) .town (.tup l) s1)) (PL (n + 1)) := by
          refine Dr.yl (P := LsN (n + 1) 16) (yl_ls (by ((repeat' (first | assumption | exact yll_nil | apply yll_cons | apply yl_tup | apply yl_lst | exact yl_pure .non | exact yl_pure (.bl _) | exact yl_pure (.int _) | exact yl_pure (.str ⟨by kernel_rfl, by decide⟩) | exact yl_neg _ | exact yl_pure (PL.le (by assumption) (by omega))))) <;> (show (_ : Nat) ≤ 1000; decide))) fun s hs => ?_
          refine Dr.yl (P := LsN (n + 1) 19) (yl_add ⟨s, rfl, hs⟩ (yl_ls (n := 3) (by ((repeat' (first | assumption | exact yll_nil | apply yll_cons | apply yl_tup | apply yl_lst | exact yl_pure .non | exact yl_pure (.bl _) | exact yl_pure (.int _) | exact yl_pure (.str ⟨by kernel_rfl, by decide⟩) | exact yl_neg _ | exact yl_pure (PL.le (by assumption) (by omega))))) <;> (show (_ : Nat) ≤ 1000; decide))) (by decide)) fun s hs => ?_
          rw [f_if, if_pos rfl]
          exact bent_list hn h1 hp hs
        have one' : Dr 2 _ (PL (n + 1 + 1)) := one.imp fun a ha => ha.up
        clear one
        cases he : l.isEmpty with
        | true =>
          rw [Bool.not_true, Bool.not_false, if_pos rfl, f_if, if_pos rfl]
          exact one'.more (by omega)
        | false =>
          rw [Bool.not_false, Bool.not_true, if_neg (by simp)]
          refine Dr.then (f := fun b : Bool => if b = true then _ else _) 2 (draw_eq0 hn (by decide)) (by omega) fun b _ => ?_
          refine Dr.ite (fun _ => one'.more (by omega)) fun _ => ?_
          rw [show fCall m__law_draw (fCons (M.pure (.scr ns)) (fCons (M.pure .town) (fCons (fCB lenF (fCons (M.pure (.tup l)) fNil)) fNil))) = m__law_draw [.scr ns, .town, .int l.length] from rfl]
          have hl0 : 0 < (l.length : Int) := by cases l with | nil => cases he | cons _ _ => simp
          refine Dr.then 2 (dr_draw hn hl0) (by omega) fun d ⟨r, e, r1, r2⟩ => ?_
          subst e
          obtain ⟨x, hx, ex⟩ := at_nat (l := l) r1 r2
          rw [ex, show fCall (m__law_bent f) (fCons (M.pure (.scr ns)) (fCons (M.pure .town) (fCons (M.pure x) fNil))) = m__law_bent f [.scr ns, .town, x] from rfl, f_bin, o_add, opt_some, f_oso, f_oso, f_ono, slT, slT, fill]
          refine Dr.then (4 * (n + 1)) (dr_bent hn n f x (h2 x hx) (by omega)) (by omega) fun d hd => ?_
          have c1 := cut_len (l := l) none (some r)
          have c2 := cut_len (l := l) (some (r + 1)) none
          have hp' : PLs (n + 1) l := fun x hx => (hp x hx).up
          rw [addT (by simp; omega), addT (by simp; omega)]
          exact .pure (.tup (by simp; omega) (((hp'.cut _ _).app (PLs.cons hd PLs.nil)).app (hp'.cut _ _)))

def sgnS (y : Str) : Bool := !decide (y.cps.toList < (Str.cps " ").toList) && !decide ((Str.cps "~").toList < y.cps.toList)
theorem sgnS_eq (y : Str) : fChain leD leD (M.pure (D.str " ")) (M.pure (.str y)) (M.pure (D.str "~")) = M.pure (.bl (sgnS y)) := by
  rw [f_chain, show leD (D.str " ") (.str y) = some (.bl (!decide (y.cps.toList < (Str.cps " ").toList))) from rfl, opt_some, Pm.pure_bind, bl_bl, opt_some, Pm.pure_bind]
  show _ = M.pure (D.bl (!decide (y.cps.toList < (Str.cps " ").toList) && !decide ((Str.cps "~").toList < y.cps.toList)))
  cases (!decide (y.cps.toList < (Str.cps " ").toList)) <;> rfl
def lenD : D → Int
  | .str x => x.length
  | _ => 0
def rowB : D → Bool
  | .str x => decide ((1 : Int) ≤ x.length) && decide ((x.length : Int) ≤ 9)
  | _ => false
def inkS (y : D) : Bool := inDs y [.str "#", .str "."]
def inkB : D → Bool
  | .str x => (letters x).all inkS
  | _ => false
theorem chain19 (x : Str) (h : SO x) : fChain leD leD (M.pure (D.int 1)) (fCB lenF (fCons (M.pure (.str x)) fNil)) (M.pure (D.int 9)) = M.pure (.bl (rowB (.str x))) := by
  rw [len_str h, f_chain, o_le, opt_some, Pm.pure_bind, bl_bl, opt_some, Pm.pure_bind]
  show _ = M.pure (D.bl (decide ((1 : Int) ≤ x.length) && decide ((x.length : Int) ≤ 9)))
  cases decide ((1 : Int) ≤ x.length) <;> rfl
theorem row_is {n : Nat} {d : D} (h : PL n d) : fAnd (fIsi "str" (M.pure d)) (fChain leD leD (M.pure (D.int 1)) (fCB lenF (fCons (M.pure d) fNil)) (M.pure (D.int 9))) = M.pure (.bl (rowB d)) := by
  rw [f_isi, isi_str' h.plain]
  cases h with
  | @str _ x h => rw [chain19 x h]; rfl
  | _ => rfl
theorem ink_in (c : Nat) (hc : c < 1114112) : fBin inD (M.pure (.str ⟨#[c]⟩)) (fTup (fCons (M.pure (D.str "#")) (fCons (M.pure (D.str ".")) fNil))) = M.pure (.bl (inkS (.str ⟨#[c]⟩))) := by
  have e : inD (.str ⟨#[c]⟩) (.tup [.str "#", .str "."]) = some (.bl (inDs (.str ⟨#[c]⟩) [.str "#", .str "."])) := if_pos ⟨by
    show PyData.strOk _ = true
    unfold PyData.strOk
    simp; exact hc, by kernel_rfl⟩
  rw [show fTup (fCons (M.pure (D.str "#")) (fCons (M.pure (D.str ".")) fNil)) = M.pure (D.tup [.str "#", .str "."]) from rfl, f_bin, e, opt_some]
  rfl
theorem ink_is (c : Nat) : inkS (.str ⟨#[c]⟩) = (c == 35 || c == 46) := by
  have h1 : deq (.str ⟨#[c]⟩) (D.str "#") = (c == 35) := by
    show (SX.S [c] == SX.S [35]) = _
    rw [SX.S_beq]; simp
  have h2 : deq (.str ⟨#[c]⟩) (D.str ".") = (c == 46) := by
    show (SX.S [c] == SX.S [46]) = _
    rw [SX.S_beq]; simp
  have h3 : deq (D.str "#") (.str ⟨#[c]⟩) = (c == 35) := by
    show (SX.S [35] == SX.S [c]) = _
    rw [SX.S_beq, Bool.eq_iff_iff]
    constructor <;> intro h <;> simp at h ⊢ <;> exact h.symm
  have h4 : deq (D.str ".") (.str ⟨#[c]⟩) = (c == 46) := by
    show (SX.S [46] == SX.S [c]) = _
    rw [SX.S_beq, Bool.eq_iff_iff]
    constructor <;> intro h <;> simp at h ⊢ <;> exact h.symm
  unfold inkS
  simp [inDs, h1, h2, h3, h4]
theorem ink_nin (c : Nat) : ninStr (.str ⟨#[c]⟩) (D.str "#.") = some (.bl (!inkS (.str ⟨#[c]⟩))) := by
  show some (D.bl (!(!(Builtin.Str.occurrences "#." ⟨#[c]⟩ 0 ("#." : Str).length 1).isEmpty))) = _
  congr 3
  rw [ink_is, Bool.eq_iff_iff, StrLaws.found_iff]
  have l1 : (⟨#[c]⟩ : Str).length = 1 := rfl
  have l2 : ("#." : Str).length = 2 := rfl
  constructor
  · rintro ⟨i, h1, h2⟩
    unfold Builtin.Str.subAt at h2
    rw [l1, beq_iff_eq] at h2
    have hi : i = 0 ∨ i = 1 := by rw [l1] at h1; have : i + 1 ≤ 2 := h1; omega
    rcases hi with rfl | rfl
    · have : (#[35] : Array Nat) = #[c] := h2
      have : (35 : Nat) = c := by simpa using this
      subst this; rfl
    · have : (#[46] : Array Nat) = #[c] := h2
      have : (46 : Nat) = c := by simpa using this
      subst this; rfl
  · intro h
    rw [Bool.or_eq_true, beq_iff_eq, beq_iff_eq] at h
    rcases h with rfl | rfl
    · exact ⟨0, by decide, by decide⟩
    · exact ⟨1, by decide, by decide⟩
theorem so_lt {x : Str} (h : SO x) : ∀ c ∈ x.cps.toList, c < 1114112 := by
  have := h.1
  unfold PyData.strOk at this
  intro c hc
  have := Array.all_eq_true'.mp this c (by simpa using hc)
  simpa using this
theorem inks_is {x : Str} (h : SO x) : fCB allF (fCons (fLC (fItems (M.pure (.str x))) fun sign_ => (fBin inD (M.pure sign_) (fTup (fCons (M.pure (D.str "#")) (fCons (M.pure (D.str ".")) fNil))))) fNil) = M.pure (.bl (inkB (.str x))) := by
  rw [letters_of h, all_eq (g := inkS) (l := letters x) (fun y hy => by
    obtain ⟨c, hc, rfl⟩ := List.mem_map.mp hy
    exact ink_in c (so_lt h c hc))]
  rfl
theorem inks_nin {x : Str} (h : SO x) : fTru (fLCf (fItems (M.pure (.str x))) fun _law_sign_ => fIf (fOf (fBin ninStr (M.pure _law_sign_) (M.pure (D.str "#.")))) (M.bind (M.pure _law_sign_) fun y_ => M.pure (some y_)) (M.pure none)) = M.pure (!inkB (.str x)) := by
  have e := flt_of (f := fun y => fIf (fOf (fBin ninStr (M.pure y) (M.pure (D.str "#.")))) (M.bind (M.pure y) fun y_ => M.pure (some y_)) (M.pure none)) (E := id) (g := fun y => if (!inkS y) = true then some y else none) (l := letters x) (fun y hy => by
    obtain ⟨c, hc, rfl⟩ := List.mem_map.mp hy
    show fIf (fOf (fBin ninStr (M.pure (.str ⟨#[c]⟩)) (M.pure (D.str "#.")))) _ _ = _
    rw [f_bin, ink_nin, opt_some, f_of, f_if, Pm.pure_bind]
    by_cases z : (!inkS (.str ⟨#[c]⟩)) = true
    · rw [if_pos z, if_pos z]; rfl
    · rw [if_neg z, if_neg z])
  rw [List.map_id] at e
  rw [letters_of h, f_lcf, e, Pm.pure_bind, f_tru, t_lst, opt_some]
  congr 1
  show (!(List.filterMap _ (letters x)).isEmpty) = !((letters x).all inkS)
  rw [Bool.eq_iff_iff]
  induction letters x with
  | nil => simp
  | cons a l ih =>
    rw [List.filterMap_cons, List.all_cons]
    cases inkS a
    · simp
    · simp only [Bool.not_true, Bool.false_eq_true, if_false, Bool.true_and]
      exact ih

def glyB (H : Int) : D → Bool
  | .tup [.str x, .tup rs] => ((x.length : Int) == 1) && (sgnS x && (((rs.length : Int) == H) && (rs.all rowB && (rs.all (fun r => lenD r == lenD (rs.headD .non)) && rs.all inkB))))
  | _ => false
theorem gl_len {H : Int} {l : List D} (h : l.length ≠ 2) : glyB H (.tup l) = false := by
  unfold glyB
  split
  · rename_i e
    injection e with e
    subst e
    exact absurd rfl h
  · rfl
theorem gl_a {H : Int} {a b : D} (h : isiStr a = false) : glyB H (.tup [a, b]) = false := by
  unfold glyB
  split
  · rename_i e
    injection e with e
    injection e with e1 e2
    subst e1
    cases h
  · rfl
theorem gl_b {H : Int} {a b : D} (h : isiTup b = false) : glyB H (.tup [a, b]) = false := by
  unfold glyB
  split
  · rename_i e
    injection e with e
    injection e with e1 e2
    injection e2 with e2 e3
    subst e2
    cases h
  · rfl
theorem tI_tup {d : D} (h : plainD d = true) : fTru (fIsi "tuple" (M.pure d)) = M.pure (isiTup d) := by rw [f_isi, isi_tup' h, opt_some, Pm.pure_bind, f_tru, t_bl, opt_some]
theorem tI_str {d : D} (h : plainD d = true) : fTru (fIsi "str" (M.pure d)) = M.pure (isiStr d) := by rw [f_isi, isi_str' h, opt_some, Pm.pure_bind, f_tru, t_bl, opt_some]
theorem len_ne {l : List D} (k : Int) : fOf (fBin neD (fCB lenF (fCons (M.pure (.tup l)) fNil)) (M.pure (.int k))) = M.pure (!((l.length : Int) == k)) := by
  rw [f_nil, f_cons, f_cb, b_len_t, opt_some, f_bin, o_ne, opt_some, f_of]
theorem slen_ne {x : Str} (h : SO x) (k : Int) : fOf (fBin neD (fCB lenF (fCons (M.pure (.str x)) fNil)) (M.pure (.int k))) = M.pure (!((x.length : Int) == k)) := by
  rw [len_str h, f_bin, o_ne, opt_some, f_of]
theorem two_of {l : List D} (h : l.length = 2) : ∃ a b, l = [a, b] := by
  match l, h with
  | [a, b], _ => exact ⟨a, b, rfl⟩
theorem tru_bl (b : Bool) : fTru (M.pure (.bl b)) = M.pure b := by rw [f_tru, t_bl, opt_some]
theorem glyph_eq {n : Nat} {d : D} (h : PL n d) {H : Int} (hH : 1 ≤ H) : m_is_glyph [d, .int H] = M.pure (.bl (glyB H d)) := by
  show p_is_glyph _ _ = _
  unfold p_is_glyph
  rw [tI_tup h.plain]
  cases h with
  | @tup _ l z h =>
    rw [show isiTup (.tup l) = true from rfl, f_notB, f_orB, Bool.not_true, if_neg (by simp), len_ne, f_orB]
    by_cases q : l.length = 2
    · obtain ⟨a, b, rfl⟩ := two_of q
      have ha := h a (by simp)
      have hb := h b (by simp)
      have i0 : fBin ixD (M.pure (.tup [a, b])) (M.pure (D.int 0)) = M.pure a := rfl
      have i1 : fBin ixD (M.pure (.tup [a, b])) (M.pure (D.int 1)) = M.pure b := rfl
      rw [if_neg (by simp), i0, i1, tI_str ha.plain, f_notB, f_orB]
      cases ha with
      | @str _ x hx =>
        rw [show isiStr (.str x) = true from rfl, Bool.not_true, if_neg (by simp), slen_ne hx, f_if, sgnS_eq, f_of, f_notB, f_orB]
        by_cases q1 : ((x.length : Int) == 1) = true
        · rw [q1, Bool.not_true, if_neg (by simp)]
          by_cases q2 : sgnS x = true
          · rw [q2, Bool.not_true, if_neg (by simp), tI_tup hb.plain, f_notB, f_orB]
            cases hb with
            | @tup _ rs z2 hr =>
              rw [show isiTup (.tup rs) = true from rfl, Bool.not_true, if_neg (by simp), len_ne, f_if]
              by_cases q3 : ((rs.length : Int) == H) = true
              · have hne : rs ≠ [] := fun z => by subst z; simp at q3; omega
                obtain ⟨r0, rr, er⟩ := List.exists_cons_of_ne_nil hne
                have e1 := all_eq (f := fun row_ => fAnd (fIsi "str" (M.pure row_)) (fChain leD leD (M.pure (D.int 1)) (fCB lenF (fCons (M.pure row_) fNil)) (M.pure (D.int 9)))) (g := rowB) (l := rs) (fun r hr2 => row_is (hr r hr2))
                rw [q3, Bool.not_true, if_neg (by simp), f_items, i_tup, opt_some, e1, tru_bl, f_notB, f_if]
                by_cases q4 : rs.all rowB = true
                · have hstr : ∀ r ∈ rs, ∃ y, r = .str y ∧ SO y := fun r hr2 => by
                    have a1 := List.all_eq_true.mp q4 r hr2
                    have a2 := hr r hr2
                    cases a2 with
                    | @str _ y hy => exact ⟨y, rfl, hy⟩
                    | _ => cases a1
                  obtain ⟨y0, ey0, hy0⟩ := hstr r0 (by rw [er]; exact List.mem_cons_self)
                  have ix0 : fBin ixD (M.pure (.tup rs)) (M.pure (D.int 0)) = M.pure r0 := by rw [er, ixT, at0, opt_some]
                  have e2 := all_eq (f := fun row_ => (fBin eqD (fCB lenF (fCons (M.pure row_) fNil)) (fCB lenF (fCons (fBin ixD (M.pure (.tup rs)) (M.pure (D.int 0))) fNil)))) (g := fun r => lenD r == lenD (rs.headD .non)) (l := rs) (fun r hr2 => by
                    obtain ⟨y, rfl, hy⟩ := hstr r hr2
                    rw [ix0, ey0, len_str hy, len_str hy0, f_bin, o_eq, opt_some, er, ey0]
                    rfl)
                  have e3 := all_eq (f := fun row_ => (fCB allF (fCons (fLC (fItems (M.pure row_)) fun sign_ => (fBin inD (M.pure sign_) (fTup (fCons (M.pure (D.str "#")) (fCons (M.pure (D.str ".")) fNil))))) fNil))) (g := inkB) (l := rs) (fun r hr2 => by
                    obtain ⟨y, rfl, hy⟩ := hstr r hr2
                    exact inks_is hy)
                  rw [q4, Bool.not_true, if_neg (by simp), e2, tru_bl, f_notB, f_if, e3]
                  show _ = M.pure (D.bl (((x.length : Int) == 1) && (sgnS x && (((rs.length : Int) == H) && (rs.all rowB && (rs.all (fun r => lenD r == lenD (rs.headD .non)) && rs.all inkB))))))
                  rw [q1, q2, q3, q4]
                  cases rs.all (fun r => lenD r == lenD (rs.headD .non)) <;> rfl
                · rw [Bool.not_eq_true] at q4
                  show _ = M.pure (D.bl (((x.length : Int) == 1) && (sgnS x && (((rs.length : Int) == H) && (rs.all rowB && (rs.all (fun r => lenD r == lenD (rs.headD .non)) && rs.all inkB))))))
                  rw [q4, if_pos (by simp), q1, q2, q3]
                  rfl
              · rw [Bool.not_eq_true] at q3
                show _ = M.pure (D.bl (((x.length : Int) == 1) && (sgnS x && (((rs.length : Int) == H) && (rs.all rowB && (rs.all (fun r => lenD r == lenD (rs.headD .non)) && rs.all inkB))))))
                rw [q3, if_pos (by simp), q1, q2]
                rfl
            | _ => rw [gl_b rfl]; rfl
          · rw [Bool.not_eq_true] at q2
            have e : glyB H (.tup [.str x, b]) = false := by
              unfold glyB
              split
              · rename_i e
                injection e with e
                injection e with e1 e2
                injection e1 with e1
                subst e1
                rw [q2]; simp
              · rfl
            rw [q2, Bool.not_false, if_pos rfl, f_if, if_pos rfl, e]
        · rw [Bool.not_eq_true] at q1
          have e : glyB H (.tup [.str x, b]) = false := by
            unfold glyB
            split
            · rename_i e
              injection e with e
              injection e with e1 e2
              injection e1 with e1
              subst e1
              rw [q1]; rfl
            · rfl
          rw [q1, if_pos (by simp), e]
      | _ => rw [gl_a rfl]; rfl
    · rw [if_pos (by simp; omega), gl_len q]; rfl
  | _ => rfl
theorem gl_loop {n : Nat} (thing : D) (k : Unit → M D) : ∀ rs : List D, (∀ r ∈ rs, PL n r) → fFor (l0__law_is_glyph thing) rs () k = if (rs.all fun r => rowB r && inkB r) = true then k () else M.pure (.bl false)
  | [], _ => rfl
  | r :: rs, h => by
    have ih := gl_loop thing k rs fun x hx => h x (List.mem_cons_of_mem _ hx)
    have hr := h r List.mem_cons_self
    rw [for_cons, List.all_cons]
    show l0__law_is_glyph thing r () (fun st' => fFor (l0__law_is_glyph thing) rs st' k) = _
    rw [show l0__law_is_glyph thing r () (fun st' => fFor (l0__law_is_glyph thing) rs st' k) = l0__law_is_glyph thing r () (fun _ => if (rs.all fun r => rowB r && inkB r) = true then k () else M.pure (.bl false)) from by congr 1; funext u; cases u; exact ih]
    unfold l0__law_is_glyph
    rw [tI_str hr.plain]
    cases hr with
    | @str _ x hx =>
      rw [show isiStr (.str x) = true from rfl, f_notB, f_orB, Bool.not_true, if_neg (by simp), chain19 x hx, f_of, f_notB, f_if, inks_nin hx, f_if]
      generalize rowB (.str x) = a
      generalize inkB (.str x) = b
      generalize (rs.all fun r => rowB r && inkB r) = c
      cases a <;> cases b <;> cases c <;> rfl
    | _ => rfl
theorem all_and : ∀ rs : List D, (rs.all fun r => rowB r && inkB r) = (rs.all rowB && rs.all inkB)
  | [] => rfl
  | r :: rs => by
    rw [List.all_cons, List.all_cons, List.all_cons, all_and rs]
    generalize rowB r = a
    generalize inkB r = b
    generalize rs.all rowB = c
    generalize rs.all inkB = d
    cases a <;> cases b <;> cases c <;> cases d <;> rfl
theorem same_len {rs : List D} (h0 : rs ≠ []) : (((srtI (rs.map lenD)).length : Int) == 1) = rs.all fun r => lenD r == lenD (rs.headD .non) := by
  obtain ⟨r0, rr, er⟩ := List.exists_cons_of_ne_nil h0
  have hh : lenD (rs.headD .non) = lenD r0 := by rw [er]; rfl
  have hne : rs.map lenD ≠ [] := fun z => h0 (List.map_eq_nil_iff.mp z)
  rw [Bool.eq_iff_iff, List.all_eq_true, hh]
  constructor
  · intro h r hr
    have h1 : (srtI (rs.map lenD)).length = 1 := by have := beq_iff_eq.mp h; omega
    match hs : srtI (rs.map lenD), h1 with
    | [m], _ =>
      have a1 := srtI_mem.mpr (List.mem_map.mpr ⟨r, hr, rfl⟩ : lenD r ∈ rs.map lenD)
      have a2 := srtI_mem.mpr (List.mem_map.mpr ⟨r0, by rw [er]; exact List.mem_cons_self, rfl⟩ : lenD r0 ∈ rs.map lenD)
      rw [hs, List.mem_singleton] at a1 a2
      rw [beq_iff_eq, a1, a2]
  · intro h
    have : srtI (rs.map lenD) = [lenD r0] := srtI_alike hne fun x hx => by
      obtain ⟨r, hr, rfl⟩ := List.mem_map.mp hx
      exact beq_iff_eq.mp (h r hr)
    rw [this]; rfl
theorem lglyph_eq {n : Nat} {d : D} (h : PL n d) {H : Int} (hH : 1 ≤ H) : m__law_is_glyph [d, .int H] = M.pure (.bl (glyB H d)) := by
  show p__law_is_glyph _ _ = _
  unfold p__law_is_glyph
  rw [tI_tup h.plain]
  cases h with
  | @tup _ l z h =>
    rw [show isiTup (.tup l) = true from rfl, f_notB, f_orB, Bool.not_true, if_neg (by simp), len_ne, f_orB]
    by_cases q : l.length = 2
    · obtain ⟨a, b, rfl⟩ := two_of q
      have ha := h a (by simp)
      have hb := h b (by simp)
      have i0 : fBin ixD (M.pure (.tup [a, b])) (M.pure (D.int 0)) = M.pure a := rfl
      have i1 : fBin ixD (M.pure (.tup [a, b])) (M.pure (D.int 1)) = M.pure b := rfl
      rw [if_neg (by simp), i0, i1, tI_str ha.plain, f_notB]
      cases ha with
      | @str _ x hx =>
        rw [show isiStr (.str x) = true from rfl, Bool.not_true, f_if, if_neg (by simp), tI_tup hb.plain, f_notB, f_if]
        cases hb with
        | @tup _ rs z2 hr =>
          rw [show isiTup (.tup rs) = true from rfl, Bool.not_true, if_neg (by simp), slen_ne hx, sgnS_eq, f_of, f_notB, f_orB, len_ne]
          have eg : glyB H (.tup [.str x, .tup rs]) = (((x.length : Int) == 1) && (sgnS x && (((rs.length : Int) == H) && (rs.all rowB && (rs.all (fun r => lenD r == lenD (rs.headD .non)) && rs.all inkB))))) := rfl
          rw [eg]
          by_cases q1 : ((x.length : Int) == 1) = true
          · rw [q1, Bool.not_true, if_neg (by simp), f_orB]
            by_cases q2 : sgnS x = true
            · rw [q2, Bool.not_true, if_neg (by simp), f_if]
              by_cases q3 : ((rs.length : Int) == H) = true
              · have hne : rs ≠ [] := fun z => by subst z; simp at q3; omega
                rw [q3, Bool.not_true, if_neg (by simp), f_items, i_tup, opt_some, Pm.pure_bind, gl_loop _ _ rs hr]
                have e4 : (rs.all fun r => rowB r && inkB r) = (rs.all rowB && rs.all inkB) := all_and rs
                rw [e4]
                by_cases q4 : (rs.all rowB && rs.all inkB) = true
                · have q5 := q4
                  rw [Bool.and_eq_true] at q5
                  have e1 : fLC (M.pure rs) (fun _law_text_ => (fCB lenF (fCons (M.pure _law_text_) fNil))) = M.pure (.lst ((rs.map lenD).map D.int)) := by
                    have := map_of (f := fun _law_text_ => (fCB lenF (fCons (M.pure _law_text_) fNil))) (E := id) (g := fun r => .int (lenD r)) (l := rs) (fun r hr2 => by
                      have a1 := List.all_eq_true.mp q5.1 r hr2
                      have a2 := hr r hr2
                      cases a2 with
                      | @str _ y hy => exact len_str hy
                      | _ => cases a1)
                    rw [List.map_id] at this
                    rw [f_lc, this, Pm.pure_bind, List.map_map]
                    rfl
                  have e2 : fCB lsIF (fCons (M.pure (.lst ((rs.map lenD).map D.int))) fNil) = M.pure (.int ((srtI (rs.map lenD)).length : Nat)) := by
                    show M.opt ((intsD ((rs.map lenD).map D.int)).bind _) = _
                    rw [intsD_map, Option.bind_some, if_pos (by rw [List.length_map]; exact z2), opt_some]
                  rw [if_pos q4, e1, e2, f_bin, o_eq, opt_some, same_len hne, q5.1, q5.2]
                  simp
                · rw [if_neg q4]
                  rw [Bool.not_eq_true, Bool.and_eq_false_iff] at q4
                  rcases q4 with q4 | q4 <;> rw [q4] <;> simp
              · rw [Bool.not_eq_true] at q3
                rw [q3]; rfl
            · rw [Bool.not_eq_true] at q2
              rw [q2]; rfl
          · rw [Bool.not_eq_true] at q1
            rw [q1]; rfl
        | _ => rw [gl_b rfl]; rfl
      | _ => rw [gl_a rfl]; rfl
    · rw [if_pos (by simp; omega), gl_len q]; rfl
  | _ => rfl

theorem foldl_in : ∀ (ns l : List Str) (z : Str), z ∈ ns.foldl addL l → z ∈ l ∨ z ∈ ns
  | [], l, z, h => .inl h
  | x :: ns, l, z, h => by
    rcases foldl_in ns (addL l x) z h with h | h
    · rcases addL_mem.mp h with h | h
      · exact .inl h
      · exact .inr (by rw [h]; exact List.mem_cons_self)
    · exact .inr (List.mem_cons_of_mem _ h)
theorem strs_map : ∀ xs : List Str, strsD (xs.map D.str) = some xs
  | [] => rfl
  | x :: xs => by rw [List.map_cons]; show (strsD (xs.map D.str)).map _ = _; rw [strs_map xs]; rfl
theorem okd_names {xs : List Str} (h : ∀ x ∈ xs, SO x) (n : Nat) : (xs.map D.str).all (okd n) = true := by
  rw [List.all_eq_true]
  intro d hd
  obtain ⟨x, hx, rfl⟩ := List.mem_map.mp hd
  have := (h x hx).1
  cases n <;> (unfold okd; exact this)
theorem names_eq {xs : List Str} (h : ∀ x ∈ xs, SO x) (hl : xs.length ≤ 1000) : ∃ v, fAnd (fBin eqD (M.pure (.lst (xs.map D.str))) (fCB ssTxF (fCons (M.pure (.lst (xs.map D.str))) fNil))) (fBin inD (M.pure (D.str " ")) (M.pure (.lst (xs.map D.str)))) = M.pure (.bl v) := by
  have e1 : fCB ssTxF (fCons (M.pure (.lst (xs.map D.str))) fNil) = M.pure (.lst ((srtS (xs.foldl addL [])).map D.str)) := by
    show M.opt ((strsD (xs.map D.str)).bind _) = _
    rw [strs_map, Option.bind_some, if_pos hl, opt_some]
  have o1 : okd 40 (.lst (xs.map D.str)) = true := by rw [okd_lst]; exact okd_names h 39
  have o2 : okd 40 (.lst ((srtS (xs.foldl addL [])).map D.str)) = true := by
    rw [okd_lst]
    refine okd_names (fun x hx => ?_) 39
    unfold srtS at hx
    rw [List.mem_mergeSort] at hx
    rcases foldl_in xs [] x hx with q | q
    · cases q
    · exact h x q
  have e2 : fBin inD (M.pure (D.str " ")) (M.pure (.lst (xs.map D.str))) = M.pure (.bl (inDs (D.str " ") (xs.map D.str))) := by
    have : inD (D.str " ") (.lst (xs.map D.str)) = some (.bl (inDs (D.str " ") (xs.map D.str))) := if_pos ⟨by kernel_rfl, okd_names h 39⟩
    rw [f_bin, this, opt_some]
  rw [e1, e2, f_bin, o_eqT o1 o2, opt_some, f_and]
  split
  · exact ⟨_, rfl⟩
  · exact ⟨_, rfl⟩
theorem chain_int (lo hi i : Int) : fChain leD leD (M.pure (.int lo)) (M.pure (.int i)) (M.pure (.int hi)) = M.pure (.bl (partB lo hi (.int i))) := by
  show fChain leD leD (M.pure (.int lo)) (M.pure (.int i)) (M.pure (.int hi)) = M.pure (.bl (decide (lo ≤ i) && decide (i ≤ hi)))
  rw [f_chain, o_le, opt_some, Pm.pure_bind, bl_bl, opt_some, Pm.pure_bind]
  by_cases q : lo ≤ i
  · rw [decide_eq_true q]; rfl
  · rw [decide_eq_false q]; rfl
theorem three_of {l : List D} (h : l.length = 3) : ∃ a b c, l = [a, b, c] := by
  match l, h with
  | [a, b, c], _ => exact ⟨a, b, c, rfl⟩
theorem whole_no {lo hi : Int} {d : D} (h : (isiInt d && !isiBool d) = false) : partB lo hi d = false := by
  cases d <;> first | rfl | (cases h)
theorem whole_yes {n : Nat} {d : D} (hp : PL n d) (h : (isiInt d && !isiBool d) = true) : ∃ i, d = .int i := by
  cases hp with
  | int i => exact ⟨i, rfl⟩
  | bl b => cases h
  | _ => cases h
theorem bad_any (H : Int) : ∀ cs : List D, (!(cs.filterMap fun y => if (!glyB H y) = true then some y else none).isEmpty) = !cs.all (glyB H)
  | [] => rfl
  | a :: l => by
    have ih := bad_any H l
    rw [List.filterMap_cons, List.all_cons]
    cases glyB H a
    · rfl
    · simp only [Bool.not_true, Bool.false_eq_true, if_false, Bool.true_and]
      exact ih
theorem names_of : ∀ cs : List D, (∀ x ∈ cs, ∃ y : Str, SO y ∧ fBin ixD (M.pure x) (M.pure (D.int 0)) = M.pure (.str y)) → ∃ xs : List Str, (∀ x ∈ xs, SO x) ∧ xs.length = cs.length ∧ fMapM (fun one_ => (fBin ixD (M.pure one_) (M.pure (D.int 0)))) cs = M.pure (xs.map D.str)
  | [], _ => ⟨[], by simp, rfl, rfl⟩
  | x :: cs, hg => by
    obtain ⟨y, hy, e⟩ := hg x List.mem_cons_self
    obtain ⟨xs, h1, h2, h3⟩ := names_of cs fun z hz => hg z (List.mem_cons_of_mem _ hz)
    refine ⟨y :: xs, fun z hz => ?_, by simp [h2], ?_⟩
    · rcases List.mem_cons.mp hz with rfl | hz
      · exact hy
      · exact h1 z hz
    · rw [x_cons, e, h3]
      rfl
theorem fonts_eq {n : Nat} {d : D} (h : PL n d) : ∃ v, m_is_font [d] = M.pure (.bl v) ∧ m__law_is_font [d] = M.pure (.bl v) := by
  have e1 : m_is_font [d] = p_is_font d := rfl
  have e2 : m__law_is_font [d] = p__law_is_font d := rfl
  rw [e1, e2]
  unfold p_is_font p__law_is_font
  rw [tI_tup h.plain]
  cases h with
  | @tup _ l z h =>
    rw [show isiTup (.tup l) = true from rfl, f_notB, f_orB, Bool.not_true, if_neg (by simp), f_orB, if_neg (by simp), len_ne, f_orB, f_orB]
    by_cases q : l.length = 3
    · obtain ⟨a, b, c, rfl⟩ := three_of q
      have ha := h a (by simp)
      have hb := h b (by simp)
      have hc := h c (by simp)
      have i0 : fBin ixD (M.pure (.tup [a, b, c])) (M.pure (D.int 0)) = M.pure a := rfl
      have i1 : fBin ixD (M.pure (.tup [a, b, c])) (M.pure (D.int 1)) = M.pure b := rfl
      have i2 : fBin ixD (M.pure (.tup [a, b, c])) (M.pure (D.int 2)) = M.pure c := rfl
      rw [if_neg (by simp), if_neg (by simp), i0, i1, i2, call1 m_is_whole, iswhole_eq ha, call1 m_is_whole, iswhole_eq hb, tru_bl, tru_bl, f_notB, f_notB, f_orB, Pm.pure_bind, tI_tup hc.plain, f_notB, call3 m__law_whole, whole_eq ha, call3 m__law_whole, whole_eq hb, tru_bl, tru_bl, f_notB, f_notB, f_orB]
      have u3 : ∀ k : D → D → D → M D, fU3 (.tup [a, b, c]) k = k a b c := fun k => rfl
      rw [u3]
      cases qa : (isiInt a && !isiBool a) with
      | false =>
        refine ⟨false, rfl, ?_⟩
        rw [whole_no qa]
        cases isiTup c <;> rfl
      | true =>
        cases qb : (isiInt b && !isiBool b) with
        | false =>
          refine ⟨false, rfl, ?_⟩
          rw [whole_no qb]
          cases isiTup c <;> cases partB 1 9 a <;> rfl
        | true =>
          obtain ⟨H, rfl⟩ := whole_yes ha qa
          obtain ⟨g, rfl⟩ := whole_yes hb qb
          rw [Bool.not_true, if_neg (by simp), f_if, if_neg (by simp), chain_int, chain_int, f_of, f_of, f_notB, f_notB, f_orB]
          cases hc with
          | @tup _ cs z2 hcs =>
            rw [show isiTup (.tup cs) = true from rfl, Bool.not_true, f_if, if_neg Bool.false_ne_true]
            cases pa : partB 1 9 (.int H) with
            | false => exact ⟨false, rfl, rfl⟩
            | true =>
              cases pb : partB 0 9 (.int g) with
              | false => exact ⟨false, rfl, rfl⟩
              | true =>
                have hH : 1 ≤ H := by
                  have pa : (decide (1 ≤ H) && decide (H ≤ 9)) = true := pa
                  rw [Bool.and_eq_true, decide_eq_true_eq] at pa
                  exact pa.1
                have ga := all_eq (f := fun one_ => (fCall m_is_glyph (fCons (M.pure one_) (fCons (M.pure (.int H)) fNil)))) (g := glyB H) (l := cs) (fun x hx => glyph_eq (hcs x hx) hH)
                have gb : fTru (fLCf (M.pure cs) fun _law_one_ => fIf (fNotB (fTru (fCall m__law_is_glyph (fCons (M.pure _law_one_) (fCons (M.pure (.int H)) fNil))))) (M.bind (M.pure _law_one_) fun y_ => M.pure (some y_)) (M.pure none)) = M.pure (!cs.all (glyB H)) := by
                  have e := flt_of (f := fun _law_one_ => fIf (fNotB (fTru (fCall m__law_is_glyph (fCons (M.pure _law_one_) (fCons (M.pure (.int H)) fNil))))) (M.bind (M.pure _law_one_) fun y_ => M.pure (some y_)) (M.pure none)) (E := id) (g := fun y => if (!glyB H y) = true then some y else none) (l := cs) (fun y hy => by
                    show fIf (fNotB (fTru (m__law_is_glyph [y, .int H]))) _ _ = _
                    rw [lglyph_eq (hcs y hy) hH, tru_bl, f_notB, f_if, Pm.pure_bind]
                    by_cases z : (!glyB H y) = true
                    · rw [if_pos z, if_pos z]; rfl
                    · rw [if_neg z, if_neg z])
                  rw [List.map_id] at e
                  rw [f_lcf, e, Pm.pure_bind, f_tru, t_lst, opt_some]
                  rw [bad_any]
                have it : fItems (M.pure (.tup cs)) = M.pure cs := by rw [f_items, i_tup, opt_some]
                simp only [Bool.not_true, Bool.false_eq_true, if_false, f_orB, f_if]
                rw [tI_tup rfl, show isiTup (.tup cs) = true from rfl, it, ga, tru_bl, gb]
                simp only [f_notB, Bool.not_true, Bool.false_eq_true, if_false, f_if]
                cases qg : cs.all (glyB H) with
                | false => exact ⟨false, rfl, rfl⟩
                | true =>
                  have hg : ∀ x ∈ cs, ∃ y : Str, SO y ∧ fBin ixD (M.pure x) (M.pure (D.int 0)) = M.pure (.str y) := fun x hx => by
                    have a1 := List.all_eq_true.mp qg x hx
                    have a2 := hcs x hx
                    unfold glyB at a1
                    split at a1
                    · rename_i y rs
                      have := a2.of_tup (.str y) (by simp)
                      cases this with
                      | str hy => exact ⟨y, hy, rfl⟩
                    · cases a1
                  have nm := names_of cs hg
                  obtain ⟨xs, x1, x2, x3⟩ := nm
                  obtain ⟨v, hv⟩ := names_eq x1 (by omega)
                  simp only [Bool.not_true, Bool.false_eq_true, if_false]
                  rw [f_lc, x3, Pm.pure_bind, Pm.pure_bind]
                  exact ⟨v, hv, hv⟩
          | _ =>
            refine ⟨false, ?_, rfl⟩
            cases partB 1 9 (.int H) <;> cases partB 0 9 (.int g) <;> rfl
    · exact ⟨false, by rw [if_pos (by simp; omega)]; rfl, by rw [if_pos (by simp; omega)]; rfl⟩
  | _ => exact ⟨false, rfl, rfl⟩

theorem look {n : Nat} {d : D} (h : PL n d) : fCall (m__law_same 8) (fCons (fCall m_is_font (fCons (M.pure d) fNil)) (fCons (fCall m__law_is_font (fCons (M.pure d) fNil)) fNil)) = M.pure (.bl true) := by
  obtain ⟨v, h1, h2⟩ := fonts_eq h
  rw [call1 m_is_font, h1, call1 m__law_is_font, h2]
  exact same8 (d := .bl v) (by unfold pd; rfl)
theorem so_S {l : List Nat} (h : ∀ c ∈ l, c < 1114112) (hl : l.length ≤ 1000) : SO (SX.S l) := by
  refine ⟨?_, by rw [SX.S_len]; exact hl⟩
  have := okd_tX h 0
  unfold okd at this
  exact this
section
variable {h g : Nat} {R : Nat → List (List Nat)} (ok : okF h g R)
include ok
theorem nrows {c : Nat} (hc : c ∈ sg) : NT 1 (.tup ((R c).map tX)) := by
  have h1 := ok.len c hc
  have h3 := ok.h3
  refine .tup (by rw [List.length_map]; omega) fun x hx => ?_
  obtain ⟨r, hr, rfl⟩ := List.mem_map.mp hx
  refine .str (so_S (fun y hy => ?_) ?_)
  · rcases ok.ink c hc r hr y hy with z | z <;> omega
  · have := ok.row c hc r hr
    have := ok.w3 c hc
    omega
theorem nglyph {c : Nat} (hc : c ∈ sg) : NT 2 (glD c (R c)) := by
  refine .tup (by simp) fun x hx => ?_
  simp only [List.mem_cons, List.not_mem_nil, or_false] at hx
  rcases hx with rfl | rfl
  · exact .str (so_S (fun y hy => by rw [List.mem_singleton.mp hy]; exact sg_lt (.inl hc)) (by simp))
  · exact nrows ok hc
theorem nsigns : NT 3 (.tup [glD 32 (R 32), glD 97 (R 97), glD 98 (R 98), glD 105 (R 105)]) := by
  refine .tup (by simp) fun x hx => ?_
  simp only [List.mem_cons, List.not_mem_nil, or_false] at hx
  rcases hx with rfl | rfl | rfl | rfl
  · exact nglyph ok (by decide)
  · exact nglyph ok (by decide)
  · exact nglyph ok (by decide)
  · exact nglyph ok (by decide)
theorem nfont : NT 4 (fontD h g R) := by
  have h3 := ok.h3
  have hg := ok.g2
  refine .tup (by simp) fun x hx => ?_
  simp only [List.mem_cons, List.not_mem_nil, or_false] at hx
  rcases hx with rfl | rfl | rfl
  · exact .int (by omega) (by omega)
  · exact .int (by omega) (by omega)
  · exact nsigns ok
omit ok in
theorem mapX_snoc {f : D → M D} {α : Type} {E : α → D} {g : α → D} {z : D} {c : Str} (hz : f z = M.raise c) : ∀ {l : List α}, (∀ x ∈ l, f (E x) = M.pure (g x)) → fMapX f (l.map E ++ [z]) = M.raise c
  | [], _ => mapX_ex hz
  | x :: l, h => by
    rw [List.map_cons, List.cons_append]
    show (f (E x)).bind _ = _
    rw [h x List.mem_cons_self, Pm.pure_bind, mapX_snoc hz fun y hy => h y (List.mem_cons_of_mem _ hy)]
    rfl
theorem meas_z {v : List Nat} (hl : v.length ≤ 50) (hv : ∀ c ∈ v, c ∈ sg) : m_measured [fontD h g R, tX (v ++ [122])] = M.raise "NoSign" := by
  show p_measured _ _ = _
  unfold p_measured
  rw [f_items, items_S (by simp; omega), opt_some, f_lcX, List.map_append, List.map_cons, List.map_nil, mapX_snoc (c := "NoSign") (g := fun c => .int (wd R c : Nat))]
  · rfl
  · rw [call2, rows_bad (by omega) (by decide)]
    rfl
  · intro c hc
    obtain ⟨r, rs, e, e2⟩ := row0 ok (hv c hc)
    rw [call2, rows_for (hv c hc), e, List.map_cons, f_bin, Pm.ix_tup, at0, opt_some, f_nil, f_cons, f_cb, len_S (by rw [e2]; have := ok.w3 c (hv c hc); omega), opt_some, e2]
end
theorem lm_ok {F T d : D} (h : m_measured [F, T] = M.pure d) : m__law_measured [F, T] = M.pure d := by
  show p__law_measured _ _ = _
  unfold p__law_measured
  rw [Pm.pure_bind, call2 m_measured, h]; rfl
theorem lm_no {F T : D} (h : m_measured [F, T] = M.raise "NoSign") : m__law_measured [F, T] = M.pure (D.str "NoSign") := by
  show p__law_measured _ _ = _
  unfold p__law_measured
  rw [Pm.pure_bind, call2 m_measured, h]
  kernel_rfl
theorem repl_m (m : M D) : fRepl "\n" "" m = m.bind fun d => fRepl "\n" "" (M.pure d) := rfl
theorem ne_str (s : Str) (hs : okd 40 (.str s) = true) : fOf (fBin neD (M.pure (D.str s)) (M.pure (D.str s))) = M.pure false := by
  rw [f_bin, o_ne_self hs, opt_some, f_of]
theorem bents {ns : List Int} (hn : ns.length ≤ 63) {a : Nat} {t F : D} (ht : LsN 6 a t) (ha : a ≤ 400) (hF : NT 4 F) : Dr 200 (fBin addD (M.pure t) (fLC (fRng (fCons (M.pure (D.int 10)) fNil)) fun _law_j_ => (fCall (m__law_bent 12) (fCons (M.pure (.scr ns)) (fCons (M.pure .town) (fCons (M.pure F) fNil)))))) (LsN 6 (a + 10)) := by
  obtain ⟨l, rfl, hl, hp⟩ := ht
  have e : fBin addD (M.pure (.lst l)) (fLC (fRng (fCons (M.pure (D.int 10)) fNil)) fun _law_j_ => (fCall (m__law_bent 12) (fCons (M.pure (.scr ns)) (fCons (M.pure .town) (fCons (M.pure F) fNil))))) = (fMapM (fun _ => m__law_bent 12 [.scr ns, .town, F]) ((List.range 10).map fun (k : Nat) => D.int k)).bind fun r => M.opt (addD (.lst l) (.lst r)) := by
    rw [show fRng (fCons (M.pure (D.int 10)) fNil) = M.opt (rngF [.int 10]) from rfl, rng_A (by decide) (by decide), opt_some, f_lc]
    show M.bind (M.pure (.lst l)) (fun a => M.bind (M.bind _ _) fun b => M.opt (addD a b)) = _
    rw [Pm.pure_bind, Pm.bind_assoc]
    rfl
  rw [e]
  have hlen : ((List.range 10).map fun (k : Nat) => D.int k).length = 10 := by simp
  refine Dr.then (20 * ((List.range 10).map fun (k : Nat) => D.int k).length) (dr_map (P := PL 5) 20 _ fun y hy => dr_bent hn 4 12 F hF (by decide)) (by rw [hlen]; decide) fun r ⟨hr, hrp⟩ => ?_
  rw [o_addL (by rw [hr, hlen, hl]; omega), opt_some]
  exact .pure ⟨l ++ r, rfl, by simp only [List.length_append, hl, hr, hlen], hp.app fun y hy => (hrp y hy).le (by decide)⟩
theorem step (ns : List Int) (hn : ns.length ≤ 63) (x : D) (K : Nat) (k : Unit → M D) (hk : ∀ st, True → Dr K (k st) (· = .bl true)) : Dr (400 + K) (l0_law (.scr ns) .town x () k) (· = .bl true) := by
  unfold l0_law
  rw [call2 m__law_drawn_font]
  refine Dr.then 84 (dr_font hn) (by omega) fun d ⟨h, g, R, e, ok⟩ => ?_
  subst e
  have h1 := ok.h1
  have h3 := ok.h3
  have nF := nfont ok
  have nS := nsigns ok
  have pF := nF.pl
  have u3 : ∀ k : D → D → D → M D, fU3 (fontD h g R) k = k (.int h) (.int g) (.tup [glD 32 (R 32), glD 97 (R 97), glD 98 (R 98), glD 105 (R 105)]) := fun k => rfl
  have ib : fBin ixD (M.pure (.tup [glD 32 (R 32), glD 97 (R 97), glD 98 (R 98), glD 105 (R 105)])) (M.pure (D.int 0)) = M.pure (glD 32 (R 32)) := rfl
  rw [unk_font, Pm.pure_bind, u3, ib, Pm.pure_bind]
  have hgs : PLs 2 [glD 32 (R 32), glD 97 (R 97), glD 98 (R 98), glD 105 (R 105)] := by
    have := nS.pl
    cases this with
    | tup z hz => exact hz
  have hfs : PLs 3 [.int h, .int g, .tup [glD 32 (R 32), glD 97 (R 97), glD 98 (R 98), glD 105 (R 105)]] := by
    cases pF with
    | tup z hz => exact hz
  have pS : PL 3 (.tup [glD 32 (R 32), glD 97 (R 97), glD 98 (R 98), glD 105 (R 105)]) := nS.pl
  generalize hGS : [glD 32 (R 32), glD 97 (R 97), glD 98 (R 98), glD 105 (R 105)] = gs at hgs pS hfs
  have gl : gs.length = 4 := by rw [← hGS]; rfl
  have a0 : Yl (fCB lstF (fCons (M.pure (fontD h g R)) fNil)) (PL 6) := ⟨.lst [.int h, .int g, .tup gs], by rw [← hGS]; rfl, PL.le (n := 4) (.lst (by simp) hfs) (by decide)⟩
  have a1 : Yl (fSl (M.pure (.tup gs)) (fOSo (M.pure (D.int 1))) fONo) (PL 5) := ⟨_, rfl, PL.le (n := 3) (.tup (by have := cut_len (l := gs) (some 1) none; omega) (hgs.cut (some 1) none)) (by decide)⟩
  have a2 : Yl (fRev (M.pure (.tup gs))) (PL 5) := ⟨.tup gs.reverse, rfl, PL.le (n := 3) (.tup (by rw [List.length_reverse]; omega) fun x hx => hgs x (List.mem_reverse.mp hx)) (by decide)⟩
  have a3 : Yl (fBin addD (M.pure (.tup gs)) (fSl (M.pure (.tup gs)) (fOSo (fNeg (M.pure (D.int 1)))) fONo)) (PL 5) := ⟨.tup (gs ++ cutL gs (some (-1)) none), addT (by have := cut_len (l := gs) (some (-1)) none; omega), PL.le (n := 3) (.tup (by have := cut_len (l := gs) (some (-1)) none; rw [List.length_append]; omega) (hgs.app (hgs.cut _ _))) (by decide)⟩
  have a4 : Yl (fBin addD (M.pure (.int h)) (M.pure (D.int 1))) (PL 5) := ⟨.int (h + 1), rfl, .int _⟩
  have a5 : Yl (fBin smulD (M.pure (D.str "#")) (M.pure (D.int 9))) (PL 2) := ⟨.str "#########", by kernel_rfl, .str ⟨by kernel_rfl, by decide⟩⟩
  have a6 : Yl (fBin smulD (M.pure (D.str "#")) (M.pure (D.int 10))) (PL 2) := ⟨.str "##########", by kernel_rfl, .str ⟨by kernel_rfl, by decide⟩⟩
  have a7 : Yl (M.pure (fontD h g R)) (PL 6) := yl_pure (pF.le (by decide))
  have a8 : Yl (M.pure (.tup gs)) (PL 5) := yl_pure (pS.le (by decide))
  refine Dr.yl (P := LsN 6 6) (yl_ls (by ((repeat' (first | assumption | exact yll_nil | apply yll_cons | apply yl_tup | apply yl_lst | exact yl_pure .non | exact yl_pure (.bl _) | exact yl_pure (.int _) | exact yl_pure (.str ⟨by kernel_rfl, by decide⟩) | exact yl_neg _ | exact yl_pure (PL.le (by assumption) (by omega))))) <;> (show (_ : Nat) ≤ 1000; decide))) fun t ht => ?_
  refine Dr.yl (P := LsN 6 8) (yl_add ⟨t, rfl, ht⟩ (yl_ls (n := 2) (by ((repeat' (first | assumption | exact yll_nil | apply yll_cons | apply yl_tup | apply yl_lst | exact yl_pure .non | exact yl_pure (.bl _) | exact yl_pure (.int _) | exact yl_pure (.str ⟨by kernel_rfl, by decide⟩) | exact yl_neg _ | exact yl_pure (PL.le (by assumption) (by omega))))) <;> (show (_ : Nat) ≤ 1000; decide))) (by decide)) fun t ht => ?_
  refine Dr.yl (P := LsN 6 10) (yl_add ⟨t, rfl, ht⟩ (yl_ls (n := 2) (by ((repeat' (first | assumption | exact yll_nil | apply yll_cons | apply yl_tup | apply yl_lst | exact yl_pure .non | exact yl_pure (.bl _) | exact yl_pure (.int _) | exact yl_pure (.str ⟨by kernel_rfl, by decide⟩) | exact yl_neg _ | exact yl_pure (PL.le (by assumption) (by omega))))) <;> (show (_ : Nat) ≤ 1000; decide))) (by decide)) fun t ht => ?_
  refine Dr.yl (P := LsN 6 12) (yl_add ⟨t, rfl, ht⟩ (yl_ls (n := 2) (by ((repeat' (first | assumption | exact yll_nil | apply yll_cons | apply yl_tup | apply yl_lst | exact yl_pure .non | exact yl_pure (.bl _) | exact yl_pure (.int _) | exact yl_pure (.str ⟨by kernel_rfl, by decide⟩) | exact yl_neg _ | exact yl_pure (PL.le (by assumption) (by omega))))) <;> (show (_ : Nat) ≤ 1000; decide))) (by decide)) fun t ht => ?_
  refine Dr.yl (P := LsN 6 14) (yl_add ⟨t, rfl, ht⟩ (yl_ls (n := 2) (by ((repeat' (first | assumption | exact yll_nil | apply yll_cons | apply yl_tup | apply yl_lst | exact yl_pure .non | exact yl_pure (.bl _) | exact yl_pure (.int _) | exact yl_pure (.str ⟨by kernel_rfl, by decide⟩) | exact yl_neg _ | exact yl_pure (PL.le (by assumption) (by omega))))) <;> (show (_ : Nat) ≤ 1000; decide))) (by decide)) fun t ht => ?_
  refine Dr.yl (P := LsN 6 16) (yl_add ⟨t, rfl, ht⟩ (yl_ls (n := 2) (by ((repeat' (first | assumption | exact yll_nil | apply yll_cons | apply yl_tup | apply yl_lst | exact yl_pure .non | exact yl_pure (.bl _) | exact yl_pure (.int _) | exact yl_pure (.str ⟨by kernel_rfl, by decide⟩) | exact yl_neg _ | exact yl_pure (PL.le (by assumption) (by omega))))) <;> (show (_ : Nat) ≤ 1000; decide))) (by decide)) fun t ht => ?_
  refine Dr.yl (P := LsN 6 18) (yl_add ⟨t, rfl, ht⟩ (yl_ls (n := 2) (by ((repeat' (first | assumption | exact yll_nil | apply yll_cons | apply yl_tup | apply yl_lst | exact yl_pure .non | exact yl_pure (.bl _) | exact yl_pure (.int _) | exact yl_pure (.str ⟨by kernel_rfl, by decide⟩) | exact yl_neg _ | exact yl_pure (PL.le (by assumption) (by omega))))) <;> (show (_ : Nat) ≤ 1000; decide))) (by decide)) fun t ht => ?_
  refine Dr.yl (P := LsN 6 19) (yl_add ⟨t, rfl, ht⟩ (yl_ls (n := 1) (by ((repeat' (first | assumption | exact yll_nil | apply yll_cons | apply yl_tup | apply yl_lst | exact yl_pure .non | exact yl_pure (.bl _) | exact yl_pure (.int _) | exact yl_pure (.str ⟨by kernel_rfl, by decide⟩) | exact yl_neg _ | exact yl_pure (PL.le (by assumption) (by omega))))) <;> (show (_ : Nat) ≤ 1000; decide))) (by decide)) fun t ht => ?_
  refine Dr.yl (P := LsN 6 20) (yl_add ⟨t, rfl, ht⟩ (yl_ls (n := 1) (by ((repeat' (first | assumption | exact yll_nil | apply yll_cons | apply yl_tup | apply yl_lst | exact yl_pure .non | exact yl_pure (.bl _) | exact yl_pure (.int _) | exact yl_pure (.str ⟨by kernel_rfl, by decide⟩) | exact yl_neg _ | exact yl_pure (PL.le (by assumption) (by omega))))) <;> (show (_ : Nat) ≤ 1000; decide))) (by decide)) fun t ht => ?_
  refine Dr.yl (P := LsN 6 22) (yl_add ⟨t, rfl, ht⟩ (yl_ls (n := 2) (by ((repeat' (first | assumption | exact yll_nil | apply yll_cons | apply yl_tup | apply yl_lst | exact yl_pure .non | exact yl_pure (.bl _) | exact yl_pure (.int _) | exact yl_pure (.str ⟨by kernel_rfl, by decide⟩) | exact yl_neg _ | exact yl_pure (PL.le (by assumption) (by omega))))) <;> (show (_ : Nat) ≤ 1000; decide))) (by decide)) fun t ht => ?_
  refine Dr.then 200 (bents hn ht (by decide) nF) (by omega) fun t ht => ?_
  obtain ⟨l, rfl, hl, hp⟩ := ht
  have ea := all_eq (f := fun d => fCall (m__law_same 8) (fCons (fCall m_is_font (fCons (M.pure d) fNil)) (fCons (fCall m__law_is_font (fCons (M.pure d) fNil)) fNil))) (g := fun _ => true) (l := l) (fun y hy => look (hp y hy))
  have et : (l.all fun _ => true) = true := List.all_eq_true.mpr fun _ _ => rfl
  rw [f_items, i_lst, opt_some, ea, et, tru_bl, f_notB, f_if, if_neg (by simp), repl_m, call3 m__law_drawn_text, Pm.bind_assoc]
  refine Dr.then 14 (dr_text hn (m := 6) (by decide)) (by omega) fun d ⟨u, e, u1, u2⟩ => ?_
  subst e
  obtain ⟨n1, n2⟩ := nolf_ok u2
  rw [repl_S (by omega), Pm.pure_bind]
  generalize nolf u = v at n1 n2 ⊢
  have hz : m_measured [fontD h g R, tX (v ++ [122])] = M.raise "NoSign" := meas_z ok (by omega) n2
  have m1 := measured_eq ok (l := v) (by omega) n2
  have m0 := measured_eq ok (l := []) (by simp) (by simp)
  have m32 := measured_eq ok (l := [32]) (by simp) (by decide)
  have w1 := wide_eq ok (l := v) (by omega) n2
  rw [call2 m__law_measured, lm_ok m1, call2 m__law_wide, w1, call2 (m__law_same 8), same8 (pd_int _ _), tru_bl, f_notB, f_orB, if_neg (by simp), call2 m_measured, show (D.str "") = tX [] from rfl, m0, f_bin neD, o_ne, opt_some, f_of, show meas g R [] = 0 from by simp [meas], f_if, if_neg (by simp), show (D.str "z") = tX [122] from rfl, f_bin addD, add_S (by simp; omega), opt_some, call2 m__law_measured, lm_no hz, ne_str _ (by kernel_rfl), f_if, if_neg (by simp)]
  obtain ⟨r, rs, er, er2⟩ := row0 ok (c := 32) (by decide)
  have i0 : fBin ixD (M.pure (glD 32 (R 32))) (M.pure (D.int 0)) = M.pure (tX [32]) := rfl
  have i1 : fBin ixD (M.pure (glD 32 (R 32))) (M.pure (D.int 1)) = M.pure (.tup ((R 32).map tX)) := rfl
  have w3 := ok.w3 32 (by decide)
  rw [i0, i1, call2 m__law_measured, lm_ok m32, er, List.map_cons, f_bin ixD, Pm.ix_tup, at0, opt_some, f_nil, f_cons, f_cb, len_S (by omega), opt_some, f_bin neD, o_ne, opt_some, f_of, f_if, er2, if_neg (by simp [meas])]
  exact (hk () trivial).more (by omega)
theorem law_true : ∀ ns : List Int, ns.length ≤ 63 → ∃ w', m_law [.scr ns] ⟨none, []⟩ = .ok (.bl true) w' := by
  intro ns hn
  have h : Dr 100000 ((M.bind (fRng (fCons (M.pure (.int 5)) fNil)) fun xs1_ => fFor (l0_law (.scr ns) .town) xs1_ () fun _ => (M.pure (.bl true)))) (· = .bl true) := by
    simp only [in_int, ng_int, mx_nil, mx_cons, o_ne_self, o_eq_self, ls_lst, Pm.pure_bind, bad_bind, raise_bind, opt_some, opt_none, Pm.bind_assoc, Pm.bind_pure, f_bin, f_nil, f_cons, f_tup, f_lst, f_call, f_cb, f_if, f_of, f_ofv, f_tru, f_andB, f_orB, f_notB, f_and, f_or, f_not, f_neg, f_chain, f_sl, f_ono, f_oso, f_items, f_zip, f_enum, f_rng, f_lc, f_lcf, f_lc2, f_in, f_lz, f_app, f_ext, f_seti, f_isi, f_u2, f_u3, f_u4, i_tup, i_lst, z_tup, z_lst, zl_nil, zl_cons, en_tup, en_lst, en_nil, en_cons, x_nil, x_cons, x_map, x_pure, xf_nil, xf_cons, xc_nil, xc_cons, noEx_pure, o_add, o_sub, o_lt, o_le, o_gt, o_ge, o_eq, o_ne, o_mulL, o_mulR, o_div, o_mod, o_addT, o_addL, o_iadd, Pm.ix_tup, ix_lst, Pm.sl_tup, sl_lst, b_len_t, b_len_l, b_abs, b_int_i, b_int_b, b_sum, b_all, b_any, b_tup_l, b_tup_t, b_lst_l, b_lst_t, b_max2, b_max3, b_min2, b_min3, t_bl, t_int, t_tup, t_lst, t_non, a_app, a_ext, bl_bl, decide_true, decide_false, Bool.not_true, Bool.not_false, if_true, if_false, Bool.false_eq_true, for_nil, for_cons, ls_cons, ls_nil, at0, at1, at2, at3, at4, List.cons_append, List.nil_append, List.length_cons, List.length_nil, List.length_map, n_ot, isi_int', isi_bool', isi_tup', isi_str', dn_non, dn_int, dn_tup, dn_str, dn_bl, dnn_non, dnn_int, dnn_tup, dnn_str, dnn_bl, decide_eq_true_eq, fBin, fCons, fTup, fLst, fCall, fCB, fIf, fOf, fTru, fAndB, fOrB, fNotB, fAnd, fOr, fNot, fNeg, fChain, fSl, fOSo, fItems, fZip, fEnum, fRng, fLC, fLCf, fLC2, fIn, fLz, fApp, fExt, fSetI, fIsi, rng_A (j := 5) (by decide) (by decide)]
    exact Dr.more (dr_for (fun _ => True) 400 0 _ _ (fun x _ st i k _ hk => step ns hn x i k hk) _ trivial fun _ _ => Dr.pure rfl) (by simp)
  obtain ⟨a, t', n, h1, rfl, _⟩ := h [] [] (by simp)
  exact ⟨_, h1⟩
end Lw
namespace Lw
open PySem PySem.Spec PyProof.Rows L2 Pm

theorem hd_mk {K : PySem.W.Frag} {h : Heap} {mg : Str → Option Value} (X : K.In h) (G : h.Ns mainGlobals mg) {f0 : Addr} {od0 an0 : Option Addr} {sl0 : Array (Option Value)} {oc0 kV0 dc0 pm0 cd0 ct0 : Value} {f1 : Addr} {od1 an1 : Option Addr} {sl1 : Array (Option Value)} {oc1 kV1 dc1 pm1 cd1 ct1 : Value} {f2 : Addr} {od2 an2 : Option Addr} {sl2 : Array (Option Value)} {oc2 kV2 dc2 pm2 cd2 ct2 : Value} {f3 : Addr} {od3 an3 : Option Addr} {sl3 : Array (Option Value)} {oc3 kV3 dc3 pm3 cd3 ct3 : Value} {f4 : Addr} {od4 an4 : Option Addr} {sl4 : Array (Option Value)} {oc4 kV4 dc4 pm4 cd4 ct4 : Value} {f5 : Addr} {od5 an5 : Option Addr} {sl5 : Array (Option Value)} {oc5 kV5 dc5 pm5 cd5 ct5 : Value} {f6 : Addr} {od6 an6 : Option Addr} {sl6 : Array (Option Value)} {oc6 kV6 dc6 pm6 cd6 ct6 : Value} {f7 : Addr} {od7 an7 : Option Addr} {sl7 : Array (Option Value)} {oc7 kV7 dc7 pm7 cd7 ct7 : Value} {f8 : Addr} {od8 an8 : Option Addr} {sl8 : Array (Option Value)} {oc8 kV8 dc8 pm8 cd8 ct8 : Value} {f9 : Addr} {od9 an9 : Option Addr} {sl9 : Array (Option Value)} {oc9 kV9 dc9 pm9 cd9 ct9 : Value} {f10 : Addr} {od10 an10 : Option Addr} {sl10 : Array (Option Value)} {oc10 kV10 dc10 pm10 cd10 ct10 : Value} {f11 : Addr} {od11 an11 : Option Addr} {sl11 : Array (Option Value)} {oc11 kV11 dc11 pm11 cd11 ct11 : Value} {f12 : Addr} {od12 an12 : Option Addr} {sl12 : Array (Option Value)} {oc12 kV12 dc12 pm12 cd12 ct12 : Value} {f13 : Addr} {od13 an13 : Option Addr} {sl13 : Array (Option Value)} {oc13 kV13 dc13 pm13 cd13 ct13 : Value} {f14 : Addr} {od14 an14 : Option Addr} {sl14 : Array (Option Value)} {oc14 kV14 dc14 pm14 cd14 ct14 : Value} {f15 : Addr} {od15 an15 : Option Addr} {sl15 : Array (Option Value)} {oc15 kV15 dc15 pm15 cd15 ct15 : Value} {f16 : Addr} {od16 an16 : Option Addr} {sl16 : Array (Option Value)} {oc16 kV16 dc16 pm16 cd16 ct16 : Value} {xc0 : Addr}
    (a0 : PySem.W.nsIn K mainGlobals "_law_draw" = some (some (.ref f0))) (l0 : K.lookup f0 = some ⟨oc0, od0, .func (PySem.W.fnOf "_law_draw" "_law_draw" (defArgs (topS 12)) (defBody (topS 12)) (defScope (topS 12)) .none kV0 dc0 pm0 an0 cd0 ct0), sl0⟩) (c0 : PySem.W.codeIn K cd0 "_law_draw" = true) (k0 : PySem.W.keepIn K (.ref f0) = true)
    (a1 : PySem.W.nsIn K mainGlobals "_law_pick" = some (some (.ref f1))) (l1 : K.lookup f1 = some ⟨oc1, od1, .func (PySem.W.fnOf "_law_pick" "_law_pick" (defArgs (topS 13)) (defBody (topS 13)) (defScope (topS 13)) .none kV1 dc1 pm1 an1 cd1 ct1), sl1⟩) (c1 : PySem.W.codeIn K cd1 "_law_pick" = true) (k1 : PySem.W.keepIn K (.ref f1) = true)
    (a2 : PySem.W.nsIn K mainGlobals "_law_drawn_font" = some (some (.ref f2))) (l2 : K.lookup f2 = some ⟨oc2, od2, .func (PySem.W.fnOf "_law_drawn_font" "_law_drawn_font" (defArgs (topS 15)) (defBody (topS 15)) (defScope (topS 15)) .none kV2 dc2 pm2 an2 cd2 ct2), sl2⟩) (c2 : PySem.W.codeIn K cd2 "_law_drawn_font" = true) (k2 : PySem.W.keepIn K (.ref f2) = true)
    (a3 : PySem.W.nsIn K mainGlobals "_law_bent" = some (some (.ref f3))) (l3 : K.lookup f3 = some ⟨oc3, od3, .func (PySem.W.fnOf "_law_bent" "_law_bent" (defArgs (topS 14)) (defBody (topS 14)) (defScope (topS 14)) .none kV3 dc3 pm3 an3 cd3 ct3), sl3⟩) (c3 : PySem.W.codeIn K cd3 "_law_bent" = true) (k3 : PySem.W.keepIn K (.ref f3) = true)
    (a4 : PySem.W.nsIn K mainGlobals "_law_same" = some (some (.ref f4))) (l4 : K.lookup f4 = some ⟨oc4, od4, .func (PySem.W.fnOf "_law_same" "_law_same" (defArgs (topS 11)) (defBody (topS 11)) (defScope (topS 11)) .none kV4 dc4 pm4 an4 cd4 ct4), sl4⟩) (c4 : PySem.W.codeIn K cd4 "_law_same" = true) (k4 : PySem.W.keepIn K (.ref f4) = true)
    (a5 : PySem.W.nsIn K mainGlobals "_law_whole" = some (some (.ref f5))) (l5 : K.lookup f5 = some ⟨oc5, od5, .func (PySem.W.fnOf "_law_whole" "_law_whole" (defArgs (topS 19)) (defBody (topS 19)) (defScope (topS 19)) .none kV5 dc5 pm5 an5 cd5 ct5), sl5⟩) (c5 : PySem.W.codeIn K cd5 "_law_whole" = true) (k5 : PySem.W.keepIn K (.ref f5) = true)
    (a6 : PySem.W.nsIn K mainGlobals "_law_is_glyph" = some (some (.ref f6))) (l6 : K.lookup f6 = some ⟨oc6, od6, .func (PySem.W.fnOf "_law_is_glyph" "_law_is_glyph" (defArgs (topS 20)) (defBody (topS 20)) (defScope (topS 20)) .none kV6 dc6 pm6 an6 cd6 ct6), sl6⟩) (c6 : PySem.W.codeIn K cd6 "_law_is_glyph" = true) (k6 : PySem.W.keepIn K (.ref f6) = true)
    (a7 : PySem.W.nsIn K mainGlobals "_law_is_font" = some (some (.ref f7))) (l7 : K.lookup f7 = some ⟨oc7, od7, .func (PySem.W.fnOf "_law_is_font" "_law_is_font" (defArgs (topS 21)) (defBody (topS 21)) (defScope (topS 21)) .none kV7 dc7 pm7 an7 cd7 ct7), sl7⟩) (c7 : PySem.W.codeIn K cd7 "_law_is_font" = true) (k7 : PySem.W.keepIn K (.ref f7) = true)
    (a8 : PySem.W.nsIn K mainGlobals "is_whole" = some (some (.ref f8))) (l8 : K.lookup f8 = some ⟨oc8, od8, .func (PySem.W.fnOf "is_whole" "is_whole" (defArgs (topS 4)) (defBody (topS 4)) (defScope (topS 4)) .none kV8 dc8 pm8 an8 cd8 ct8), sl8⟩) (c8 : PySem.W.codeIn K cd8 "is_whole" = true) (k8 : PySem.W.keepIn K (.ref f8) = true)
    (a9 : PySem.W.nsIn K mainGlobals "is_glyph" = some (some (.ref f9))) (l9 : K.lookup f9 = some ⟨oc9, od9, .func (PySem.W.fnOf "is_glyph" "is_glyph" (defArgs (topS 6)) (defBody (topS 6)) (defScope (topS 6)) .none kV9 dc9 pm9 an9 cd9 ct9), sl9⟩) (c9 : PySem.W.codeIn K cd9 "is_glyph" = true) (k9 : PySem.W.keepIn K (.ref f9) = true)
    (a10 : PySem.W.nsIn K mainGlobals "is_font" = some (some (.ref f10))) (l10 : K.lookup f10 = some ⟨oc10, od10, .func (PySem.W.fnOf "is_font" "is_font" (defArgs (topS 7)) (defBody (topS 7)) (defScope (topS 7)) .none kV10 dc10 pm10 an10 cd10 ct10), sl10⟩) (c10 : PySem.W.codeIn K cd10 "is_font" = true) (k10 : PySem.W.keepIn K (.ref f10) = true)
    (a11 : PySem.W.nsIn K mainGlobals "_law_drawn_text" = some (some (.ref f11))) (l11 : K.lookup f11 = some ⟨oc11, od11, .func (PySem.W.fnOf "_law_drawn_text" "_law_drawn_text" (defArgs (topS 16)) (defBody (topS 16)) (defScope (topS 16)) .none kV11 dc11 pm11 an11 cd11 ct11), sl11⟩) (c11 : PySem.W.codeIn K cd11 "_law_drawn_text" = true) (k11 : PySem.W.keepIn K (.ref f11) = true)
    (a12 : PySem.W.nsIn K mainGlobals "_law_wide" = some (some (.ref f12))) (l12 : K.lookup f12 = some ⟨oc12, od12, .func (PySem.W.fnOf "_law_wide" "_law_wide" (defArgs (topS 17)) (defBody (topS 17)) (defScope (topS 17)) .none kV12 dc12 pm12 an12 cd12 ct12), sl12⟩) (c12 : PySem.W.codeIn K cd12 "_law_wide" = true) (k12 : PySem.W.keepIn K (.ref f12) = true)
    (a13 : PySem.W.nsIn K mainGlobals "rows_for" = some (some (.ref f13))) (l13 : K.lookup f13 = some ⟨oc13, od13, .func (PySem.W.fnOf "rows_for" "rows_for" (defArgs (topS 8)) (defBody (topS 8)) (defScope (topS 8)) .none kV13 dc13 pm13 an13 cd13 ct13), sl13⟩) (c13 : PySem.W.codeIn K cd13 "rows_for" = true) (k13 : PySem.W.keepIn K (.ref f13) = true)
    (a14 : PySem.W.nsIn K mainGlobals "measured" = some (some (.ref f14))) (l14 : K.lookup f14 = some ⟨oc14, od14, .func (PySem.W.fnOf "measured" "measured" (defArgs (topS 9)) (defBody (topS 9)) (defScope (topS 9)) .none kV14 dc14 pm14 an14 cd14 ct14), sl14⟩) (c14 : PySem.W.codeIn K cd14 "measured" = true) (k14 : PySem.W.keepIn K (.ref f14) = true)
    (a15 : PySem.W.nsIn K mainGlobals "_law_measured" = some (some (.ref f15))) (l15 : K.lookup f15 = some ⟨oc15, od15, .func (PySem.W.fnOf "_law_measured" "_law_measured" (defArgs (topS 22)) (defBody (topS 22)) (defScope (topS 22)) .none kV15 dc15 pm15 an15 cd15 ct15), sl15⟩) (c15 : PySem.W.codeIn K cd15 "_law_measured" = true) (k15 : PySem.W.keepIn K (.ref f15) = true)
    (a16 : PySem.W.nsIn K mainGlobals "law" = some (some (.ref f16))) (l16 : K.lookup f16 = some ⟨oc16, od16, .func (PySem.W.fnOf "law" "law" (defArgs (topS 23)) (defBody (topS 23)) (defScope (topS 23)) .none kV16 dc16 pm16 an16 cd16 ct16), sl16⟩) (c16 : PySem.W.codeIn K cd16 "law" = true) (k16 : PySem.W.keepIn K (.ref f16) = true)
    (kt0 : kfl K = true)
    (xa0 : PySem.W.nsIn K mainGlobals "NoSign" = some (some (.ref xc0))) (xe0 : PySem.W.excIn K xc0 bmVE "ValueError.__new__" = true) (xk0 : PySem.W.keepIn K (.ref xc0) = true) (xs0 : PySem.W.subIn K (.ref xc0) (.type "BaseException") = some true) (xt0 : PySem.W.typeIn K (.ref xc0) = some (.type "type"))
    (xm0 : PySem.W.exmOne K (.ref xc0) (.ref xc0) = some true)
    (z0 : PySem.W.nsIn K mainGlobals "abs" = some none)
    (z1 : PySem.W.nsIn K mainGlobals "all" = some none)
    (z2 : PySem.W.nsIn K mainGlobals "bool" = some none)
    (z3 : PySem.W.nsIn K mainGlobals "dict" = some none)
    (z4 : PySem.W.nsIn K mainGlobals "int" = some none)
    (z5 : PySem.W.nsIn K mainGlobals "isinstance" = some none)
    (z6 : PySem.W.nsIn K mainGlobals "len" = some none)
    (z7 : PySem.W.nsIn K mainGlobals "list" = some none)
    (z8 : PySem.W.nsIn K mainGlobals "max" = some none)
    (z9 : PySem.W.nsIn K mainGlobals "range" = some none)
    (z10 : PySem.W.nsIn K mainGlobals "set" = some none)
    (z11 : PySem.W.nsIn K mainGlobals "sorted" = some none)
    (z12 : PySem.W.nsIn K mainGlobals "str" = some none)
    (z13 : PySem.W.nsIn K mainGlobals "sum" = some none)
    (z14 : PySem.W.nsIn K mainGlobals "tuple" = some none)
    (z15 : PySem.W.nsIn K mainGlobals "zip" = some none)
    : Hd K mg := ⟨df_mk (st := (topS 12)) X G a0 l0 c0 k0 fun _ _ _ _ _ _ us hl => match us, hl with | [_, _, _], _ => rfl,
    df_mk (st := (topS 13)) X G a1 l1 c1 k1 fun _ _ _ _ _ _ us hl => match us, hl with | [_, _, _], _ => rfl,
    df_mk (st := (topS 15)) X G a2 l2 c2 k2 fun _ _ _ _ _ _ us hl => match us, hl with | [_, _], _ => rfl,
    df_mk (st := (topS 14)) X G a3 l3 c3 k3 fun _ _ _ _ _ _ us hl => match us, hl with | [_, _, _], _ => rfl,
    df_mk (st := (topS 11)) X G a4 l4 c4 k4 fun _ _ _ _ _ _ us hl => match us, hl with | [_, _], _ => rfl,
    df_mk (st := (topS 19)) X G a5 l5 c5 k5 fun _ _ _ _ _ _ us hl => match us, hl with | [_, _, _], _ => rfl,
    df_mk (st := (topS 20)) X G a6 l6 c6 k6 fun _ _ _ _ _ _ us hl => match us, hl with | [_, _], _ => rfl,
    df_mk (st := (topS 21)) X G a7 l7 c7 k7 fun _ _ _ _ _ _ us hl => match us, hl with | [_], _ => rfl,
    df_mk (st := (topS 4)) X G a8 l8 c8 k8 fun _ _ _ _ _ _ us hl => match us, hl with | [_], _ => rfl,
    df_mk (st := (topS 6)) X G a9 l9 c9 k9 fun _ _ _ _ _ _ us hl => match us, hl with | [_, _], _ => rfl,
    df_mk (st := (topS 7)) X G a10 l10 c10 k10 fun _ _ _ _ _ _ us hl => match us, hl with | [_], _ => rfl,
    df_mk (st := (topS 16)) X G a11 l11 c11 k11 fun _ _ _ _ _ _ us hl => match us, hl with | [_, _, _], _ => rfl,
    df_mk (st := (topS 17)) X G a12 l12 c12 k12 fun _ _ _ _ _ _ us hl => match us, hl with | [_, _], _ => rfl,
    df_mk (st := (topS 8)) X G a13 l13 c13 k13 fun _ _ _ _ _ _ us hl => match us, hl with | [_, _], _ => rfl,
    df_mk (st := (topS 9)) X G a14 l14 c14 k14 fun _ _ _ _ _ _ us hl => match us, hl with | [_, _], _ => rfl,
    df_mk (st := (topS 22)) X G a15 l15 c15 k15 fun _ _ _ _ _ _ us hl => match us, hl with | [_, _], _ => rfl,
    df_mk (st := (topS 23)) X G a16 l16 c16 k16 fun _ _ _ _ _ _ us hl => match us, hl with | [_], _ => rfl,
    kt0,
    xk_mk X G xa0 xe0 xk0 xs0 xt0,
    xm_mk X G xa0 xa0 xm0,
    PySem.W.mg_none_of X G z0,
    PySem.W.mg_none_of X G z1,
    PySem.W.mg_none_of X G z2,
    PySem.W.mg_none_of X G z3,
    PySem.W.mg_none_of X G z4,
    PySem.W.mg_none_of X G z5,
    PySem.W.mg_none_of X G z6,
    PySem.W.mg_none_of X G z7,
    PySem.W.mg_none_of X G z8,
    PySem.W.mg_none_of X G z9,
    PySem.W.mg_none_of X G z10,
    PySem.W.mg_none_of X G z11,
    PySem.W.mg_none_of X G z12,
    PySem.W.mg_none_of X G z13,
    PySem.W.mg_none_of X G z14,
    PySem.W.mg_none_of X G z15⟩
end Lw
open PySem PySem.W PyProof.Rows
set_option maxHeartbeats 0 in
theorem PySem.Challenge.cw_paintyard_k21_fonts_told_holds : PySem.Challenge.rw_paintyard_k21_fonts_told.Holds := by
  w_on; o_law; k_head; (case hw => w_witness2)
  k_fill
  first | refine LamX.walk_ofTs (l := PySem.Challenge.rw_paintyard_k21_fonts_told) (n := 63) (k := 15) (x := "_law_script") (CX := fun w => L2.CX PySem.Challenge.pw_paintyard_k21_fonts_told w) rfl (by decide) rfl ⟨rfl, by decide, by decide⟩ (fun w h Y => PySem.W.kIn_of Y) ?F (fun _ _ _ _ _ ⟨_, _, _, _, _, _, _, _, _, _, _, _, z⟩ => z) | refine LamX.walk_ofTs (l := PySem.Challenge.rw_paintyard_k21_fonts_told) (n := 63) (k := 15) (x := "_law_script") (CX := fun w => L2.CX PySem.Challenge.pw_paintyard_k21_fonts_told w) rfl (by decide) rfl ⟨rfl, by decide, by decide⟩ (fun w h Y => PySem.W.km_in_of Y) ?F (fun _ _ _ _ _ ⟨_, _, _, _, _, _, _, _, _, _, _, _, z⟩ => z)
  case F =>
    intro w mg fa h Y KX G hmg
    first | refine' Pm.lawAt (ts := []) ?tk0 (fun _ z => nomatch z) KX (Lw.all_ok (Lw.hd_mk KX G ?a0 ?l0 ?c0 ?k0 ?a1 ?l1 ?c1 ?k1 ?a2 ?l2 ?c2 ?k2 ?a3 ?l3 ?c3 ?k3 ?a4 ?l4 ?c4 ?k4 ?a5 ?l5 ?c5 ?k5 ?a6 ?l6 ?c6 ?k6 ?a7 ?l7 ?c7 ?k7 ?a8 ?l8 ?c8 ?k8 ?a9 ?l9 ?c9 ?k9 ?a10 ?l10 ?c10 ?k10 ?a11 ?l11 ?c11 ?k11 ?a12 ?l12 ?c12 ?k12 ?a13 ?l13 ?c13 ?k13 ?a14 ?l14 ?c14 ?k14 ?a15 ?l15 ?c15 ?k15 ?a16 ?l16 ?c16 ?k16 ?kt0 ?xa0 ?xe0 ?xk0 ?xs0 ?xt0 ?xm0 ?z0 ?z1 ?z2 ?z3 ?z4 ?z5 ?z6 ?z7 ?z8 ?z9 ?z10 ?z11 ?z12 ?z13 ?z14 ?z15) hmg ?lt0) | refine' Pm.lawAt ?tk0 (PySem.W.km_tabs_of Y) KX (Lw.all_ok (Lw.hd_mk KX G ?a0 ?l0 ?c0 ?k0 ?a1 ?l1 ?c1 ?k1 ?a2 ?l2 ?c2 ?k2 ?a3 ?l3 ?c3 ?k3 ?a4 ?l4 ?c4 ?k4 ?a5 ?l5 ?c5 ?k5 ?a6 ?l6 ?c6 ?k6 ?a7 ?l7 ?c7 ?k7 ?a8 ?l8 ?c8 ?k8 ?a9 ?l9 ?c9 ?k9 ?a10 ?l10 ?c10 ?k10 ?a11 ?l11 ?c11 ?k11 ?a12 ?l12 ?c12 ?k12 ?a13 ?l13 ?c13 ?k13 ?a14 ?l14 ?c14 ?k14 ?a15 ?l15 ?c15 ?k15 ?a16 ?l16 ?c16 ?k16 ?kt0 ?xa0 ?xe0 ?xk0 ?xs0 ?xt0 ?xm0 ?z0 ?z1 ?z2 ?z3 ?z4 ?z5 ?z6 ?z7 ?z8 ?z9 ?z10 ?z11 ?z12 ?z13 ?z14 ?z15) hmg ?lt0)
    (case lt0 => exact Lw.law_true)
    (case a0 => k_is); (case l0 => k_is); (case c0 => k_is); (case k0 => k_is); (case a1 => k_is); (case l1 => k_is); (case c1 => k_is); (case k1 => k_is); (case a2 => k_is); (case l2 => k_is); (case c2 => k_is); (case k2 => k_is); (case a3 => k_is); (case l3 => k_is); (case c3 => k_is); (case k3 => k_is); (case a4 => k_is); (case l4 => k_is); (case c4 => k_is); (case k4 => k_is); (case a5 => k_is); (case l5 => k_is); (case c5 => k_is); (case k5 => k_is); (case a6 => k_is); (case l6 => k_is); (case c6 => k_is); (case k6 => k_is); (case a7 => k_is); (case l7 => k_is); (case c7 => k_is); (case k7 => k_is); (case a8 => k_is); (case l8 => k_is); (case c8 => k_is); (case k8 => k_is); (case a9 => k_is); (case l9 => k_is); (case c9 => k_is); (case k9 => k_is); (case a10 => k_is); (case l10 => k_is); (case c10 => k_is); (case k10 => k_is); (case a11 => k_is); (case l11 => k_is); (case c11 => k_is); (case k11 => k_is); (case a12 => k_is); (case l12 => k_is); (case c12 => k_is); (case k12 => k_is); (case a13 => k_is); (case l13 => k_is); (case c13 => k_is); (case k13 => k_is); (case a14 => k_is); (case l14 => k_is); (case c14 => k_is); (case k14 => k_is); (case a15 => k_is); (case l15 => k_is); (case c15 => k_is); (case k15 => k_is); (case a16 => k_is); (case l16 => k_is); (case c16 => k_is); (case k16 => k_is); (case kt0 => kernel_rfl); (case xa0 => k_is); (case xe0 => k_exc); (case xk0 => k_is); (case xs0 => k_is); (case xt0 => k_is); (case xm0 => kts_exm); (case z0 => k_is); (case z1 => k_is); (case z2 => k_is); (case z3 => k_is); (case z4 => k_is); (case z5 => k_is); (case z6 => k_is); (case z7 => k_is); (case z8 => k_is); (case z9 => k_is); (case z10 => k_is); (case z11 => k_is); (case z12 => k_is); (case z13 => k_is); (case z14 => k_is); (case z15 => k_is)
    (case tk0 => kernel_rfl)

