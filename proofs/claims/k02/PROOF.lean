import PyProof.Rows.All
import Wide.All
import OpenK.AllK
import Wide.FinOn
import HandS.ForMost
import HandS.Exc
import HandS.TryOnly
import HandS.ExcOwn
import HandS.WordsExc
import HandS.TupAny
import HandS.TupMul
import HandS.IsInst
import HandS.Conv
import HandS.Flow
import HandS.Style
import HandS.Deep
import HandS.Zip
import HandS.Defaults
import KE.DataMinMax
import KE.DatumOrd
import KE.DataIsa
import HandS.Flt
import KE.DataAny
import KE.KDictZip
import KE.KDictItemsList
import PySem.Challenge.RW_paintyard_k02_colours_by_hand
set_option Elab.async false
set_option linter.all false
set_option maxRecDepth 100000
set_option maxHeartbeats 1000000
/-! ## Pm: plain data over the hand layer -/
namespace Pm
open PySem L2

/-- plain data; town: the shared list of draws; own i: what slot i owns -/
inductive D where
  | non | bl (b : Bool) | int (i : Int) | str (x : Str)
  | tup (l : List D) | lst (l : List D) | scr (l : List Int)
  | dk (l : List (Key × D)) | dt (l : List (List Key × D))
  | town | own (i : Nat)

/-- a slot: nothing, a value, an object that this slot alone holds -/
inductive Sl where
  | no | va (d : D) | ow (d : D)

structure W where
  town : Option (List Int)
structure S where
  sl : List Sl
  w : W
inductive Res (α : Type) where
  | ok (a : α) (s : S) | ex (c : Str) (s : S) | bad
inductive Fl where
  | next | brk | cont | ret (d : D)

def Res.bind {α β : Type} (r : Res α) (k : α → S → Res β) : Res β := match r with
  | .ok a s => k a s
  | .ex c s => .ex c s
  | .bad => .bad
@[simp] theorem bind_ok {α β : Type} (a : α) (s : S) (k : α → S → Res β) : (Res.ok a s).bind k = k a s := rfl
@[simp] theorem bind_ex {α β : Type} (c : Str) (s : S) (k : α → S → Res β) : (Res.ex c s : Res α).bind k = .ex c s := rfl
@[simp] theorem bind_bad {α β : Type} (k : α → S → Res β) : (Res.bad : Res α).bind k = .bad := rfl
def Res.opt {α : Type} (o : Option α) (s : S) : Res α := match o with
  | some a => .ok a s
  | none => .bad
@[simp] theorem opt_some {α : Type} (a : α) (s : S) : Res.opt (some a) s = .ok a s := rfl
@[simp] theorem opt_none {α : Type} (s : S) : Res.opt (none : Option α) s = .bad := rfl

/-- the addresses of the world's objects -/
structure Wa where
  town : Option Addr
def Wa.has (ws : Wa) (a : Addr) : Prop := ws.town = some a
def Wa.le (ws ws' : Wa) : Prop := ∀ a, ws.town = some a → ws'.town = some a
theorem Wa.le_refl (ws : Wa) : ws.le ws := fun _ h => h
theorem Wa.le_trans {a b c : Wa} (h : a.le b) (h' : b.le c) : a.le c := fun x e => h' x (h x e)

def KT (K : PySem.W.Frag) (a : Addr) (xs : List V) : Prop := ∃ (o : Obj) (its : Array Value) (n : Nat), K.lookup a = some o ∧ o.cls = .type "tuple" ∧ o.data = .seq its n ∧ its.size ≤ sizeLine ∧ Vals xs its.toList
def KL (K : PySem.W.Frag) (a : Addr) (xs : List V) : Prop := ∃ (o : Obj) (its : Array Value) (n : Nat), K.lookup a = some o ∧ o.cls = .type "list" ∧ o.dict = none ∧ o.data = .seq its n ∧ its.size ≤ sizeLine ∧ Vals xs its.toList
def Tp (K : PySem.W.Frag) (B : Addr → Prop) (H : Hp) (a : Addr) (xs : List V) : Prop := (¬ B a ∧ Rd H a (.tup xs)) ∨ KT K a xs

def Lp (K : PySem.W.Frag) (B : Addr → Prop) (H : Hp) (a : Addr) (xs : List V) : Prop := (¬ B a ∧ Rd H a (.lst xs)) ∨ KL K a xs

mutual
/-- the value v tells the data d, and will for ever (B: what may be written) -/
inductive DR (K : PySem.W.Frag) (ws : Wa) (B : Addr → Prop) (H : Hp) : V → D → Prop
  | non : DR K ws B H .non .non
  | bl (b : Bool) : DR K ws B H (.bl b) (.bl b)
  | int (i : Int) : DR K ws B H (.int i) (.int i)
  | str (x : Str) : DR K ws B H (.str x) (.str x)
  | tup {a : Addr} {vs : List V} {ds : List D} : Tp K B H a vs → DRs K ws B H vs ds → DR K ws B H (.ref a) (.tup ds)
  | lst {a : Addr} {vs : List V} {ds : List D} : ¬ B a → H a = some (.lst vs) → DRs K ws B H vs ds → DR K ws B H (.ref a) (.lst ds)
  | scr {a : Addr} (ns : List Int) : Lp K B H a (ns.map V.int) → DR K ws B H (.ref a) (.scr ns)
  | dk {a : Addr} {kvs : List (Key × V)} {es : List (Key × D)} : ¬ B a → H a = some (.dK kvs) → kvs.map (·.1) = es.map (·.1) → DRs K ws B H (kvs.map (·.2)) (es.map (·.2)) → DR K ws B H (.ref a) (.dk es)
  | dt {a : Addr} {kvs : List (List Key × V)} {es : List (List Key × D)} : ¬ B a → H a = some (.dT kvs) → kvs.map (·.1) = es.map (·.1) → DRs K ws B H (kvs.map (·.2)) (es.map (·.2)) → DR K ws B H (.ref a) (.dt es)
  | town {a : Addr} : ws.town = some a → DR K ws B H (.ref a) .town
inductive DRs (K : PySem.W.Frag) (ws : Wa) (B : Addr → Prop) (H : Hp) : List V → List D → Prop
  | nil : DRs K ws B H [] []
  | cons {v : V} {vs : List V} {d : D} {ds : List D} : DR K ws B H v d → DRs K ws B H vs ds → DRs K ws B H (v :: vs) (d :: ds)
end

section
variable {K : PySem.W.Frag} {ws ws' : Wa} {B B' : Addr → Prop} {H H' : Hp}

theorem rd_keep {a : Addr} {u : HO} (hk : ∀ a o, H a = some o → ¬ B a → H' a = some o) (n : ¬ B a) (h : Rd H a u) : Rd H' a u := by
  rcases h with h | ⟨o, h⟩
  · exact .inl (hk a _ h n)
  · exact .inr ⟨o, hk a _ h n⟩
theorem rd_some {a : Addr} {u : HO} (h : Rd H a u) : H a ≠ none := by
  rcases h with h | ⟨o, h⟩ <;> rw [h] <;> exact fun e => by cases e
theorem nb_keep {a : Addr} (hb : ∀ a, B' a → B a ∨ H a = none) (n : ¬ B a) (h : H a ≠ none) : ¬ B' a := fun b => by
  rcases hb a b with z | z
  · exact n z
  · exact h z
theorem Tp.keep {a : Addr} {xs : List V} (hk : ∀ a o, H a = some o → ¬ B a → H' a = some o) (hb : ∀ a, B' a → B a ∨ H a = none) (h : Tp K B H a xs) : Tp K B' H' a xs := by
  rcases h with ⟨n, h⟩ | h
  · exact .inl ⟨nb_keep hb n (rd_some h), rd_keep hk n h⟩
  · exact .inr h
theorem Lp.keep {a : Addr} {xs : List V} (hk : ∀ a o, H a = some o → ¬ B a → H' a = some o) (hb : ∀ a, B' a → B a ∨ H a = none) (h : Lp K B H a xs) : Lp K B' H' a xs := by
  rcases h with ⟨n, h⟩ | h
  · exact .inl ⟨nb_keep hb n (rd_some h), rd_keep hk n h⟩
  · exact .inr h
theorem Lp.sq {a : Addr} {xs : List V} (h : Lp K B H a xs) : SqL K H a xs := by
  rcases h with ⟨_, h⟩ | h
  · exact .inl h
  · exact .inr h
theorem Tp.sq {a : Addr} {xs : List V} (h : Tp K B H a xs) : SqT K H a xs := by
  rcases h with ⟨_, h⟩ | h
  · exact .inl h
  · exact .inr h
theorem sm {o : HO} {x : Option HO} (h : x = some o) : x ≠ none := by rw [h]; intro z; cases z

mutual
theorem DR.keep (hw : ws.le ws') (hk : ∀ a o, H a = some o → ¬ B a → H' a = some o) (hb : ∀ a, B' a → B a ∨ H a = none) : ∀ {v : V} {d : D}, DR K ws B H v d → DR K ws' B' H' v d
  | _, _, .non => .non
  | _, _, .bl b => .bl b
  | _, _, .int i => .int i
  | _, _, .str x => .str x
  | _, _, .tup h r => .tup (h.keep hk hb) (DRs.keep hw hk hb r)
  | _, _, .lst n h r => .lst (nb_keep hb n (sm h)) (hk _ _ h n) (DRs.keep hw hk hb r)
  | _, _, .scr ns h => .scr ns (h.keep hk hb)
  | _, _, .dk n h e r => .dk (nb_keep hb n (sm h)) (hk _ _ h n) e (DRs.keep hw hk hb r)
  | _, _, .dt n h e r => .dt (nb_keep hb n (sm h)) (hk _ _ h n) e (DRs.keep hw hk hb r)
  | _, _, .town h => .town (hw _ h)
theorem DRs.keep (hw : ws.le ws') (hk : ∀ a o, H a = some o → ¬ B a → H' a = some o) (hb : ∀ a, B' a → B a ∨ H a = none) : ∀ {vs : List V} {ds : List D}, DRs K ws B H vs ds → DRs K ws' B' H' vs ds
  | _, _, .nil => .nil
  | _, _, .cons h r => .cons (DR.keep hw hk hb h) (DRs.keep hw hk hb r)
end
theorem DRs.length : ∀ {vs : List V} {ds : List D}, DRs K ws B H vs ds → vs.length = ds.length
  | _, _, .nil => rfl
  | _, _, .cons _ r => congrArg (· + 1) (DRs.length r)
theorem DRs.get : ∀ {vs : List V} {ds : List D} {i : Nat} {d : D}, DRs K ws B H vs ds → ds[i]? = some d → ∃ v, vs[i]? = some v ∧ DR K ws B H v d
  | _, _, _, _, .nil, e => by simp at e
  | _, _, 0, _, .cons h _, e => by simp at e; subst e; exact ⟨_, rfl, h⟩
  | _, _, i + 1, d, .cons _ r, e => by
    obtain ⟨v, h1, h2⟩ := DRs.get (i := i) (d := d) r (by simpa using e)
    exact ⟨v, by simpa using h1, h2⟩
theorem DRs.getV : ∀ {vs : List V} {ds : List D} {i : Nat} {v : V}, DRs K ws B H vs ds → vs[i]? = some v → ∃ d, ds[i]? = some d ∧ DR K ws B H v d
  | _, _, _, _, .nil, e => by simp at e
  | _, _, 0, _, .cons h _, e => by simp at e; subst e; exact ⟨_, rfl, h⟩
  | _, _, i + 1, d, .cons _ r, e => by
    obtain ⟨v, h1, h2⟩ := DRs.getV (i := i) (v := d) r (by simpa using e)
    exact ⟨v, by simpa using h1, h2⟩
theorem DRs.append : ∀ {vs us : List V} {ds es : List D}, DRs K ws B H vs ds → DRs K ws B H us es → DRs K ws B H (vs ++ us) (ds ++ es)
  | _, _, _, _, .nil, s => s
  | _, _, _, _, .cons h r, s => .cons h (DRs.append r s)
theorem DRs.take : ∀ {vs : List V} {ds : List D} (n : Nat), DRs K ws B H vs ds → DRs K ws B H (vs.take n) (ds.take n)
  | _, _, 0, _ => .nil
  | _, _, _ + 1, .nil => .nil
  | _, _, n + 1, .cons h r => .cons h (DRs.take n r)
theorem DRs.drop : ∀ {vs : List V} {ds : List D} (n : Nat), DRs K ws B H vs ds → DRs K ws B H (vs.drop n) (ds.drop n)
  | _, _, 0, r => r
  | _, _, _ + 1, .nil => .nil
  | _, _, n + 1, .cons _ r => DRs.drop n r
theorem DRs.set {v : V} {d : D} (h : DR K ws B H v d) : ∀ {vs : List V} {ds : List D} (i : Nat), DRs K ws B H vs ds → DRs K ws B H (vs.set i v) (ds.set i d)
  | _, _, _, .nil => .nil
  | _, _, 0, .cons _ t => .cons h t
  | _, _, i + 1, .cons q t => .cons q (DRs.set h i t)
theorem DRs.reverse : ∀ {vs : List V} {ds : List D}, DRs K ws B H vs ds → DRs K ws B H vs.reverse ds.reverse
  | _, _, .nil => .nil
  | _, _, .cons h r => by simp only [List.reverse_cons]; exact (DRs.reverse r).append (.cons h .nil)
theorem DRs.one {v : V} {d : D} (h : DR K ws B H v d) : DRs K ws B H [v] [d] := .cons h .nil
theorem DRs.replicate {v : V} {d : D} (h : DR K ws B H v d) : ∀ n, DRs K ws B H (List.replicate n v) (List.replicate n d)
  | 0 => .nil
  | n + 1 => .cons h (DRs.replicate h n)
theorem DRs.ints : ∀ (ns : List Int), DRs K ws B H (ns.map V.int) (ns.map D.int)
  | [] => .nil
  | _ :: r => .cons (.int _) (DRs.ints r)
theorem DR.int_of {v : V} {i : Int} (h : DR K ws B H v (.int i)) : v = .int i := by cases h; rfl
theorem DRs.of_ints : ∀ {vs : List V} (ns : List Int), DRs K ws B H vs (ns.map D.int) → vs = ns.map V.int
  | _, [], h => by cases h; rfl
  | _, n :: r, h => by
    cases h with
    | cons h1 h2 => rw [h1.int_of, DRs.of_ints r h2]; rfl
theorem DRs.of_strs : ∀ {vs : List V} (ns : List Str), DRs K ws B H vs (ns.map D.str) → vs = ns.map V.str
  | _, [], h => by cases h; rfl
  | _, n :: r, h => by
    cases h with
    | cons h1 h2 => cases h1; rw [DRs.of_strs r h2]; rfl
theorem DRs.of_bls : ∀ {vs : List V} (ns : List Bool), DRs K ws B H vs (ns.map D.bl) → vs = ns.map V.bl
  | _, [], h => by cases h; rfl
  | _, n :: r, h => by
    cases h with
    | cons h1 h2 => cases h1; rw [DRs.of_bls r h2]; rfl
theorem DRs.strs : ∀ (ns : List Str), DRs K ws B H (ns.map V.str) (ns.map D.str)
  | [] => .nil
  | _ :: r => .cons (.str _) (DRs.strs r)
end

/-- what v reads as just now -/
def DW (K : PySem.W.Frag) (ws : Wa) (B : Addr → Prop) (H : Hp) (v : V) : D → Prop
  | .non => v = .non
  | .bl b => v = .bl b
  | .int i => v = .int i
  | .str x => v = .str x
  | .tup ds => ∃ a vs, v = .ref a ∧ Tp K B H a vs ∧ DRs K ws B H vs ds
  | .lst ds => ∃ a vs, v = .ref a ∧ H a = some (.lst vs) ∧ DRs K ws B H vs ds
  | .scr ns => ∃ a, v = .ref a ∧ SqL K H a (ns.map V.int)
  | .dk es => ∃ a kvs, v = .ref a ∧ H a = some (.dK kvs) ∧ kvs.map (·.1) = es.map (·.1) ∧ DRs K ws B H (kvs.map (·.2)) (es.map (·.2))
  | .dt es => ∃ a kvs, v = .ref a ∧ H a = some (.dT kvs) ∧ kvs.map (·.1) = es.map (·.1) ∧ DRs K ws B H (kvs.map (·.2)) (es.map (·.2))
  | .town => False
  | .own _ => False

/-- the object of an owned slot -/
def OO (K : PySem.W.Frag) (ws : Wa) (B : Addr → Prop) (H : Hp) (a : Addr) : D → Prop
  | .lst ds => ∃ vs, H a = some (.lst vs) ∧ DRs K ws B H vs ds
  | .dk es => ∃ kvs, H a = some (.dK kvs) ∧ kvs.map (·.1) = es.map (·.1) ∧ DRs K ws B H (kvs.map (·.2)) (es.map (·.2))
  | .dt es => ∃ kvs, H a = some (.dT kvs) ∧ kvs.map (·.1) = es.map (·.1) ∧ DRs K ws B H (kvs.map (·.2)) (es.map (·.2))
  | _ => False

def Own (s : S) (σ : L2.St) (a : Addr) : Prop := ∃ (i : Nat) (d : D), s.sl[i]? = some (Sl.ow d) ∧ σ[i]? = some (some (V.ref a))
def Bad (ws : Wa) (B0 : Addr → Prop) (s : S) (σ : L2.St) (a : Addr) : Prop := ws.has a ∨ B0 a ∨ Own s σ a
def WR (ws : Wa) (w : W) (H : Hp) : Prop := match w.town, ws.town with
  | none, none => True
  | some l, some t => H t = some (.lst (l.map V.int))
  | _, _ => False

structure Env (K : PySem.W.Frag) (ws : Wa) (B0 : Addr → Prop) (s : S) (σ : L2.St) (H : Hp) : Prop where
  len : s.sl.length = σ.length
  wr : WR ws s.w H
  wd : ∀ a, ws.has a → H a ≠ none
  dom : ∀ a, B0 a → H a ≠ none
  va : ∀ (i : Nat) (d : D), s.sl[i]? = some (Sl.va d) → ∃ v, σ[i]? = some (some v) ∧ DR K ws (Bad ws B0 s σ) H v d
  ow : ∀ (i : Nat) (d : D), s.sl[i]? = some (Sl.ow d) → ∃ a, σ[i]? = some (some (V.ref a)) ∧ OO K ws (Bad ws B0 s σ) H a d ∧ ¬ ws.has a ∧ ¬ B0 a
  uq : ∀ (i j : Nat) (d e : D) (a : Addr), s.sl[i]? = some (Sl.ow d) → s.sl[j]? = some (Sl.ow e) → σ[i]? = some (some (V.ref a)) → σ[j]? = some (some (V.ref a)) → i = j

structure Le (ws : Wa) (O : Addr → Prop) (H : Hp) (ws' : Wa) (O' : Addr → Prop) (H' : Hp) : Prop where
  wle : ws.le ws'
  new : ∀ a, ws'.has a → ws.has a ∨ H a = none
  own : ∀ a, O' a → O a ∨ H a = none
  keep : ∀ a o, H a = some o → ¬ ws.has a → ¬ O a → H' a = some o
  ex : ∀ a, H' a = none → H a = none

/-- a value of an expression: a token, or data -/
def ER (K : PySem.W.Frag) (ws : Wa) (B0 : Addr → Prop) (s : S) (σ : L2.St) (H : Hp) (v : V) (d : D) : Prop :=
  (∃ i : Nat, d = .own i ∧ σ[i]? = some (some v)) ∨ DR K ws (Bad ws B0 s σ) H v d

/-- what a token stands for -/
def rs (s : S) (d : D) : Option D := match d with
  | .own i => (match s.sl[i]? with | some (.ow d) => some d | _ => none)
  | .town => (match s.w.town with | some l => some (.lst (l.map D.int)) | none => none)
  | d => some d
@[simp] theorem rs_non (s : S) : rs s .non = some .non := rfl
@[simp] theorem rs_bl (s : S) (b : Bool) : rs s (.bl b) = some (.bl b) := rfl
@[simp] theorem rs_int (s : S) (i : Int) : rs s (.int i) = some (.int i) := rfl
@[simp] theorem rs_str (s : S) (x : Str) : rs s (.str x) = some (.str x) := rfl
@[simp] theorem rs_tup (s : S) (l : List D) : rs s (.tup l) = some (.tup l) := rfl
@[simp] theorem rs_lst (s : S) (l : List D) : rs s (.lst l) = some (.lst l) := rfl
@[simp] theorem rs_scr (s : S) (l : List Int) : rs s (.scr l) = some (.scr l) := rfl
@[simp] theorem rs_dk (s : S) (l : List (Key × D)) : rs s (.dk l) = some (.dk l) := rfl
@[simp] theorem rs_dt (s : S) (l : List (List Key × D)) : rs s (.dt l) = some (.dt l) := rfl
theorem rs_own (s : S) (i : Nat) : rs s (.own i) = (match s.sl[i]? with | some (.ow d) => some d | _ => none) := rfl
theorem rs_town (s : S) : rs s .town = (match s.w.town with | some l => some (.lst (l.map D.int)) | none => none) := rfl

section
variable {K : PySem.W.Frag} {ws ws' ws'' : Wa} {B0 : Addr → Prop} {s s' : S} {σ σ' : L2.St} {H H' H'' : Hp} {v : V} {d : D}

theorem Le.refl (ws : Wa) (O : Addr → Prop) (H : Hp) : Le ws O H ws O H := ⟨ws.le_refl, fun _ h => .inl h, fun _ h => .inl h, fun _ _ h _ _ => h, fun _ h => h⟩
theorem Le.trans {O O' O'' : Addr → Prop} (a : Le ws O H ws' O' H') (b : Le ws' O' H' ws'' O'' H'') : Le ws O H ws'' O'' H'' where
  wle := Wa.le_trans a.wle b.wle
  new := fun x h => by
    rcases b.new x h with z | z
    · exact a.new x z
    · exact .inr (a.ex x z)
  own := fun x h => by
    rcases b.own x h with z | z
    · exact a.own x z
    · exact .inr (a.ex x z)
  keep := fun x o e w u => by
    have h1 := a.keep x o e w u
    exact b.keep x o h1 (fun z => by
      rcases a.new x z with q | q
      · exact w q
      · rw [e] at q; cases q) (fun z => by
      rcases a.own x z with q | q
      · exact u q
      · rw [e] at q; cases q)
  ex := fun x h => a.ex x (b.ex x h)

theorem Le.bad (l : Le ws (Own s σ) H ws' (Own s' σ') H') : ∀ a, Bad ws' B0 s' σ' a → Bad ws B0 s σ a ∨ H a = none := fun a h => by
  rcases h with h | h | h
  · exact (l.new a h).imp .inl id
  · exact .inl (.inr (.inl h))
  · exact (l.own a h).imp (fun z => .inr (.inr z)) id
theorem Le.kp (l : Le ws (Own s σ) H ws' (Own s' σ') H') : ∀ a o, H a = some o → ¬ Bad ws B0 s σ a → H' a = some o := fun a o e n =>
  l.keep a o e (fun z => n (.inl z)) (fun z => n (.inr (.inr z)))
/-- data stays -/
theorem DR.le (l : Le ws (Own s σ) H ws' (Own s' σ') H') (h : DR K ws (Bad ws B0 s σ) H v d) : DR K ws' (Bad ws' B0 s' σ') H' v d := h.keep l.wle l.kp l.bad
theorem DRs.le {vs : List V} {ds : List D} (l : Le ws (Own s σ) H ws' (Own s' σ') H') (h : DRs K ws (Bad ws B0 s σ) H vs ds) : DRs K ws' (Bad ws' B0 s' σ') H' vs ds := h.keep l.wle l.kp l.bad
theorem ER.le (l : Le ws (Own s σ) H ws' (Own s' σ) H') (h : ER K ws B0 s σ H v d) : ER K ws' B0 s' σ H' v d := by
  rcases h with h | h
  · exact .inl h
  · exact .inr (h.le l)

/-- all that is tracked stays, more may come -/
def Grow (H H' : Hp) : Prop := ∀ a o, H a = some o → H' a = some o
theorem Grow.refl (H : Hp) : Grow H H := fun _ _ h => h
theorem Grow.trans (a : Grow H H') (b : Grow H' H'') : Grow H H'' := fun x o h => b x o (a x o h)
theorem Grow.new {p : Addr} {o : HO} (h : H p = none) : Grow H (upd H p o) := fun a u e => by rw [upd_ne (ne_of_none e h)]; exact e
theorem Grow.ex (g : Grow H H') : ∀ a, H' a = none → H a = none := fun a h => by
  cases e : H a with
  | none => rfl
  | some o => rw [g a o e] at h; cases h
theorem Grow.le (g : Grow H H') (ws : Wa) (O : Addr → Prop) : Le ws O H ws O H' := ⟨ws.le_refl, fun _ h => .inl h, fun _ h => .inl h, fun a o e _ _ => g a o e, g.ex⟩
theorem Grow.rd {a : Addr} {u : HO} (g : Grow H H') (h : Rd H a u) : Rd H' a u := by
  rcases h with h | ⟨o, h⟩
  · exact .inl (g a _ h)
  · exact .inr ⟨o, g a _ h⟩
theorem DR.grow {B : Addr → Prop} (g : Grow H H') (h : DR K ws B H v d) : DR K ws B H' v d := h.keep ws.le_refl (fun a o e _ => g a o e) fun _ z => .inl z
theorem DRs.grow {B : Addr → Prop} {vs : List V} {ds : List D} (g : Grow H H') (h : DRs K ws B H vs ds) : DRs K ws B H' vs ds := h.keep ws.le_refl (fun a o e _ => g a o e) fun _ z => .inl z
theorem OO.grow {B : Addr → Prop} {a : Addr} (g : Grow H H') (h : OO K ws B H a d) : OO K ws B H' a d := by
  cases d <;> first
    | exact h
    | (obtain ⟨vs, e, r⟩ := h; exact ⟨vs, g _ _ e, r.grow g⟩)
    | (obtain ⟨vs, e, q, r⟩ := h; exact ⟨vs, g _ _ e, q, r.grow g⟩)
theorem WR.grow {w : W} (g : Grow H H') (h : WR ws w H) : WR ws w H' := by
  unfold WR at *
  split at h
  · trivial
  · exact g _ _ h
  · exact h
theorem Env.grow (g : Grow H H') (e : Env K ws B0 s σ H) : Env K ws B0 s σ H' where
  len := e.len
  wr := e.wr.grow g
  wd := fun a h z => e.wd a h (g.ex a z)
  dom := fun a h z => e.dom a h (g.ex a z)
  va := fun i d h => let ⟨v, h1, h2⟩ := e.va i d h; ⟨v, h1, h2.grow g⟩
  ow := fun i d h => let ⟨a, h1, h2, h3⟩ := e.ow i d h; ⟨a, h1, h2.grow g, h3⟩
  uq := e.uq
theorem OO.there {B : Addr → Prop} {a : Addr} (h : OO K ws B H a d) : H a ≠ none := by
  cases d <;> first
    | exact h.elim
    | (obtain ⟨vs, e, _⟩ := h; rw [e]; intro z; cases z)
theorem Env.bad (e : Env K ws B0 s σ H) : ∀ a, Bad ws B0 s σ a → H a ≠ none := fun a h => by
  rcases h with h | h | ⟨i, d, h1, h2⟩
  · exact e.wd a h
  · exact e.dom a h
  · obtain ⟨b, q1, q2, _⟩ := e.ow i d h1
    rw [h2] at q1
    cases q1
    exact q2.there
theorem Env.fresh (e : Env K ws B0 s σ H) {p : Addr} (h : H p = none) : ¬ Bad ws B0 s σ p := fun b => e.bad p b h

theorem DR.dw {B : Addr → Prop} (h : DR K ws B H v d) (ht : d ≠ .town) : DW K ws B H v d := by
  cases h with
  | non => rfl
  | bl b => rfl
  | int i => rfl
  | str x => rfl
  | tup h r => exact ⟨_, _, rfl, h, r⟩
  | lst n h r => exact ⟨_, _, rfl, h, r⟩
  | scr ns h => exact ⟨_, rfl, h.sq⟩
  | dk n h e r => exact ⟨_, _, rfl, h, e, r⟩
  | dt n h e r => exact ⟨_, _, rfl, h, e, r⟩
  | town h => exact absurd rfl ht
/-- what a token stands for, read -/
theorem Env.rs {d' : D} (e : Env K ws B0 s σ H) (h : ER K ws B0 s σ H v d) (hr : rs s d = some d') : DW K ws (Bad ws B0 s σ) H v d' := by
  rcases h with ⟨i, rfl, hv⟩ | h
  · rw [rs_own] at hr
    cases q : s.sl[i]? with
    | none => rw [q] at hr; cases hr
    | some x =>
      rw [q] at hr
      cases x with
      | no => cases hr
      | va d => cases hr
      | ow d =>
        have hr : some d = some d' := hr
        cases hr
        obtain ⟨a, h1, h2, _⟩ := e.ow i d' q
        rw [hv] at h1
        cases h1
        cases d' <;> first
          | exact h2.elim
          | (obtain ⟨vs, q1, q2⟩ := h2; exact ⟨a, vs, rfl, q1, q2⟩)
          | (obtain ⟨vs, q1, q2, q3⟩ := h2; exact ⟨a, vs, rfl, q1, q2, q3⟩)
  · cases h with
    | town ht =>
      rw [rs_town] at hr
      have hw := e.wr
      unfold WR at hw
      rw [ht] at hw
      cases q : s.w.town with
      | none => rw [q] at hw; exact hw.elim
      | some l =>
        rw [q] at hw hr
        cases hr
        exact ⟨_, _, rfl, hw, DRs.ints l⟩
    | non => cases hr; exact rfl
    | bl b => cases hr; exact rfl
    | int i => cases hr; exact rfl
    | str x => cases hr; exact rfl
    | tup h r => cases hr; exact ⟨_, _, rfl, h, r⟩
    | lst n h r => cases hr; exact ⟨_, _, rfl, h, r⟩
    | scr ns h => cases hr; exact ⟨_, rfl, h.sq⟩
    | dk n h e r => cases hr; exact ⟨_, _, rfl, h, e, r⟩
    | dt n h e r => cases hr; exact ⟨_, _, rfl, h, e, r⟩

/-- a token that goes elsewhere: its slot keeps the data, and owns it no more -/
def fz (d : D) (s : S) : Res D := match d with
  | .own i => (match s.sl[i]? with | some (.ow d) => .ok d { s with sl := s.sl.set i (.va d) } | _ => .bad)
  | d => .ok d s
@[simp] theorem fz_non (s : S) : fz .non s = .ok .non s := rfl
@[simp] theorem fz_bl (s : S) (b : Bool) : fz (.bl b) s = .ok (.bl b) s := rfl
@[simp] theorem fz_int (s : S) (i : Int) : fz (.int i) s = .ok (.int i) s := rfl
@[simp] theorem fz_str (s : S) (x : Str) : fz (.str x) s = .ok (.str x) s := rfl
@[simp] theorem fz_tup (s : S) (l : List D) : fz (.tup l) s = .ok (.tup l) s := rfl
@[simp] theorem fz_lst (s : S) (l : List D) : fz (.lst l) s = .ok (.lst l) s := rfl
@[simp] theorem fz_scr (s : S) (l : List Int) : fz (.scr l) s = .ok (.scr l) s := rfl
@[simp] theorem fz_dk (s : S) (l : List (Key × D)) : fz (.dk l) s = .ok (.dk l) s := rfl
@[simp] theorem fz_dt (s : S) (l : List (List Key × D)) : fz (.dt l) s = .ok (.dt l) s := rfl
@[simp] theorem fz_town (s : S) : fz .town s = .ok .town s := rfl
theorem fz_own (s : S) (i : Nat) : fz (.own i) s = (match s.sl[i]? with | some (.ow d) => .ok d { s with sl := s.sl.set i (.va d) } | _ => .bad) := rfl

theorem get_set {α : Type} {l : List α} {i j : Nat} {x y : α} (h : (l.set i x)[j]? = some y) : (j = i ∧ y = x ∧ i < l.length) ∨ (j ≠ i ∧ l[j]? = some y) := by
  by_cases e : j = i
  · subst e
    by_cases q : j < l.length
    · rw [List.getElem?_set_self q] at h
      exact .inl ⟨rfl, (Option.some.inj h).symm, q⟩
    · rw [List.getElem?_eq_none (by simpa using q)] at h
      cases h
  · rw [List.getElem?_set_ne (Ne.symm e)] at h
    exact .inr ⟨e, h⟩

theorem fz_ok {d' : D} (e : Env K ws B0 s σ H) (h : ER K ws B0 s σ H v d) (hf : fz d s = .ok d' s') :
    Le ws (Own s σ) H ws (Own s' σ) H ∧ Env K ws B0 s' σ H ∧ DR K ws (Bad ws B0 s' σ) H v d' := by
  rcases h with ⟨i, rfl, hv⟩ | h
  · rw [fz_own] at hf
    cases q : s.sl[i]? with
    | none => rw [q] at hf; cases hf
    | some x =>
      rw [q] at hf
      cases x with
      | no => cases hf
      | va d => cases hf
      | ow d =>
        have hf : Res.ok d { s with sl := s.sl.set i (.va d) } = .ok d' s' := hf
        injection hf with e1 e2
        subst e1 e2
        obtain ⟨a, h1, h2, h3, h4⟩ := e.ow i d q
        have hO : ∀ b, Own { s with sl := s.sl.set i (.va d) } σ b → Own s σ b := fun b ⟨j, dj, hj, hb⟩ => by
          rcases get_set hj with ⟨_, z, _⟩ | ⟨_, z⟩
          · cases z
          · exact ⟨j, dj, z, hb⟩
        have l : Le ws (Own s σ) H ws (Own { s with sl := s.sl.set i (.va d) } σ) H := ⟨ws.le_refl, fun _ h => .inl h, fun b h => .inl (hO b h), fun _ _ h _ _ => h, fun _ h => h⟩
        have na : ¬ Bad ws B0 { s with sl := s.sl.set i (.va d) } σ a := fun z => by
          rcases z with z | z | ⟨j, dj, hj, hb⟩
          · exact h3 z
          · exact h4 z
          · rcases get_set hj with ⟨_, z, _⟩ | ⟨n, z⟩
            · cases z
            · exact n (e.uq j i dj d a z q hb h1)
        have hD : DR K ws (Bad ws B0 { s with sl := s.sl.set i (.va d) } σ) H v d := by
          rw [hv] at h1
          cases h1
          cases d <;> first
            | exact h2.elim
            | (obtain ⟨vs, q1, q2⟩ := h2; exact .lst na q1 (q2.le l))
            | (obtain ⟨vs, q1, q2, q3⟩ := h2; exact .dk na q1 q2 (q3.le l))
            | (obtain ⟨vs, q1, q2, q3⟩ := h2; exact .dt na q1 q2 (q3.le l))
        refine ⟨l, ⟨by simpa using e.len, e.wr, e.wd, e.dom, fun j dj hj => ?_, fun j dj hj => ?_, fun j k dj dk b hj hk hb hc => ?_⟩, hD⟩
        · rcases get_set hj with ⟨rfl, z, _⟩ | ⟨_, z⟩
          · cases z; exact ⟨v, hv, hD⟩
          · obtain ⟨u, q1, q2⟩ := e.va j dj z
            exact ⟨u, q1, q2.le l⟩
        · rcases get_set hj with ⟨rfl, z, _⟩ | ⟨_, z⟩
          · cases z
          · obtain ⟨b, q1, q2, q3⟩ := e.ow j dj z
            refine ⟨b, q1, ?_, q3⟩
            cases dj <;> first
              | exact q2.elim
              | (obtain ⟨vs, r1, r2⟩ := q2; exact ⟨vs, r1, r2.le l⟩)
              | (obtain ⟨vs, r1, r2, r3⟩ := q2; exact ⟨vs, r1, r2, r3.le l⟩)
        · rcases get_set hj with ⟨rfl, z, _⟩ | ⟨_, z1⟩
          · cases z
          · rcases get_set hk with ⟨rfl, z, _⟩ | ⟨_, z2⟩
            · cases z
            · exact e.uq j k dj dk b z1 z2 hb hc
  · have : fz d s = .ok d s := by cases h <;> rfl
    rw [this] at hf
    injection hf with e1 e2
    subst e1 e2
    exact ⟨Le.refl _ _ _, e, h⟩
theorem fz_noex {c : Str} (hf : fz d s = .ex c s') : False := by
  cases d with
  | own i =>
    rw [fz_own] at hf
    cases q : s.sl[i]? with
    | none => rw [q] at hf; cases hf
    | some x => rw [q] at hf; cases x <;> cases hf
  | _ => cases hf
end
end Pm
namespace Pm
open PySem L2

abbrev Dn := S → Res D
abbrev Bn := S → Res Bool
abbrev An := S → Res (List D)
abbrev Sn := S → Res Fl

section
variable (K : PySem.W.Frag) (mg : Str → Option Value) (Wx : WX) (ws : Wa) (B0 : Addr → Prop) (s : S) (σ : L2.St) (H : Hp)
/-- a denotation's outcome, at a world: k behind it, Wx where it raises -/
def runAt {α : Type} (r : Res α) (k : Wa → S → α → Hp → Prop) : Prop := match r with
  | .ok a s' => ∀ ws' H', Le ws (Own s σ) H ws' (Own s' σ) H' → Env K ws' B0 s' σ H' → k ws' s' a H'
  | .ex c s' => ∀ ws' H' C, mg c = some (.ref C) → Le ws (Own s σ) H ws' (Own s' σ) H' → Env K ws' B0 s' σ H' → Wx (.ref C) none σ H'
  | .bad => False
def ERs : List V → List D → Prop := Paired (ER K ws B0 s σ H)
end
section
variable {K : PySem.W.Frag} {mg : Str → Option Value} {Wx : WX} {ws : Wa} {B0 : Addr → Prop} {s : S} {σ : L2.St} {H : Hp} {α β : Type} {r : Res α} {k k' : Wa → S → α → Hp → Prop}
theorem runAt.mono (h : runAt K mg Wx ws B0 s σ H r k) (f : ∀ ws' s' a H', Le ws (Own s σ) H ws' (Own s' σ) H' → Env K ws' B0 s' σ H' → k ws' s' a H' → k' ws' s' a H') : runAt K mg Wx ws B0 s σ H r k' := by
  cases r with
  | ok a s' => exact fun ws' H' l e => f ws' s' a H' l e (h ws' H' l e)
  | ex c s' => exact h
  | bad => exact h
theorem runAt.le {s1 : S} {ws1 : Wa} {H1 : Hp} (l : Le ws (Own s σ) H ws1 (Own s1 σ) H1) (h : runAt K mg Wx ws B0 s σ H r k) : runAt K mg Wx ws1 B0 s1 σ H1 r k := by
  cases r with
  | ok a s' => exact fun ws' H' l' e => h ws' H' (l.trans l') e
  | ex c s' => exact fun ws' H' C hc l' e => h ws' H' C hc (l.trans l') e
  | bad => exact h
theorem runAt.bind {g : α → S → Res β} {k : Wa → S → β → Hp → Prop} (h : runAt K mg Wx ws B0 s σ H (r.bind g) k) :
    runAt K mg Wx ws B0 s σ H r (fun ws' s' a H' => runAt K mg Wx ws' B0 s' σ H' (g a s') k) := by
  cases r with
  | ok a s1 =>
    intro ws1 H1 l1 e1
    exact runAt.le l1 h
  | ex c s' => exact h
  | bad => exact h
/-- it is there at once -/
theorem runAt.here {a : α} (e : Env K ws B0 s σ H) (h : runAt K mg Wx ws B0 s σ H (.ok a s) k) : k ws s a H := h ws H (Le.refl _ _ _) e
theorem runAt.grow {a : α} {H' : Hp} (g : Grow H H') (e : Env K ws B0 s σ H) (h : runAt K mg Wx ws B0 s σ H (.ok a s) k) : k ws s a H' := h ws H' (g.le _ _) (e.grow g)
end

def tE (K : PySem.W.Frag) (mg : Str → Option Value) (Wx : WX) (f : Dn) : TE := fun σ H Q => ∃ ws B0 s, Env K ws B0 s σ H ∧ runAt K mg Wx ws B0 s σ H (f s) fun ws' s' d H' => ∀ v, ER K ws' B0 s' σ H' v d → Q v H'
def tT (K : PySem.W.Frag) (mg : Str → Option Value) (Wx : WX) (f : Bn) : TT := fun σ H Q => ∃ ws B0 s, Env K ws B0 s σ H ∧ runAt K mg Wx ws B0 s σ H (f s) fun _ _ b H' => Q b H'
def tA (K : PySem.W.Frag) (mg : Str → Option Value) (Wx : WX) (f : An) : TA := fun σ H Q => ∃ ws B0 s, Env K ws B0 s σ H ∧ runAt K mg Wx ws B0 s σ H (f s) fun ws' s' ds H' => ∀ vs, ERs K ws' B0 s' σ H' vs ds → Q vs H'

abbrev PEm (X : Cx) (Wx : WX) (e : Expr) (f : Dn) : Prop := PE X e (tE X.K X.mg Wx f)
abbrev PTm (X : Cx) (Wx : WX) (e : Expr) (f : Bn) : Prop := PT X e (tT X.K X.mg Wx f)
abbrev PAm (X : Cx) (Wx : WX) (es : List Expr) (f : An) : Prop := PA X es (tA X.K X.mg Wx f)

theorem _root_.L2.PE.mimp {X : Cx} {e : Expr} {t t' : TE} (h : PE X e t) (f : ∀ σ H Q, t' σ H Q → t σ H Q) : PE X e t' := ⟨fun pins s σ H Q I q => h.run pins s σ H Q I (f _ _ _ q)⟩
theorem _root_.L2.PT.mimp {X : Cx} {e : Expr} {t t' : TT} (h : PT X e t) (f : ∀ σ H Q, t' σ H Q → t σ H Q) : PT X e t' := ⟨fun pins s σ H Q I q => h.run pins s σ H Q I (f _ _ _ q)⟩
theorem _root_.L2.PA.mimp {X : Cx} {e : List Expr} {t t' : TA} (h : PA X e t) (f : ∀ σ H Q, t' σ H Q → t σ H Q) : PA X e t' := ⟨fun pos pins s σ H Q I q => h.run pos pins s σ H Q I (f _ _ _ q)⟩
theorem _root_.L2.PS.mimp {X : Cx} {e : Stmt} {t t' : TS} (h : PS X e t) (f : ∀ D σ H, t' D σ H → t D σ H) : PS X e t' := ⟨fun pins s σ H D I q => h.run pins s σ H D I (f _ _ _ q)⟩
theorem _root_.L2.PSs.mimp {X : Cx} {e : List Stmt} {t t' : TS} (h : PSs X e t) (f : ∀ D σ H, t' D σ H → t D σ H) : PSs X e t' := ⟨fun pins s σ H D I q => h.run pins s σ H D I (f _ _ _ q)⟩

/-! ### names and constants -/
def dVar (i : Nat) : Dn := fun s => match s.sl[i]? with
  | some (.va d) => .ok d s
  | some (.ow _) => .ok (.own i) s
  | _ => .bad
def dC (d : D) : Dn := fun s => .ok d s
section
variable {X : Cx} {Wx : WX}
theorem m_var (i : Nat) {x : Str} {pos : Pos} (hN : X.N[i]? = some x := by rfl) (hv : Vis X.env.scope x := by first | exact Or.inl rfl | exact Or.inr (Or.inl rfl) | exact Or.inr (Or.inr rfl)) (hd : (x == ("__debug__" : Str)) = false := by decide)
    (hcd : (x == ("__classdict__" : Str)) = false := by decide) : PEm X Wx (.Name x pos) (dVar i) := by
  refine (pe_var hN hv hd hcd).mimp fun σ H Q ⟨ws, B0, s, e, h⟩ => ?_
  unfold dVar at h
  cases q : s.sl[i]? with
  | none => rw [q] at h; exact h.elim
  | some z =>
    rw [q] at h
    cases z with
    | no => exact h.elim
    | va d =>
      obtain ⟨v, h1, h2⟩ := e.va i d q
      exact ⟨v, h1, runAt.here e h v (.inr h2)⟩
    | ow d =>
      obtain ⟨a, h1, h2, _⟩ := e.ow i d q
      exact ⟨_, h1, runAt.here e h _ (.inl ⟨i, rfl, h1⟩)⟩
theorem m_c {e : Expr} {v : V} {d : D} (h : PE X e (tC v)) (hd : ∀ ws B H, DR X.K ws B H v d) : PEm X Wx e (dC d) :=
  h.mimp fun σ H Q ⟨ws, B0, s, e, h⟩ => runAt.here e h v (.inr (hd _ _ _))
theorem m_int {i j pos} : PEm X Wx (.Constant (.int i) j pos) (dC (.int i)) := m_c pe_int fun _ _ _ => .int i
theorem m_bl {b j pos} : PEm X Wx (.Constant (.bool b) j pos) (dC (.bl b)) := m_c pe_bl fun _ _ _ => .bl b
theorem m_non {j pos} : PEm X Wx (.Constant .none j pos) (dC .non) := m_c pe_non fun _ _ _ => .non
theorem m_str {x j pos} : PEm X Wx (.Constant (.str x) j pos) (dC (.str x)) := m_c pe_str fun _ _ _ => .str x
/-- a constant of the module -/
theorem m_glob {x : Str} {v : V} {u : Value} {d : D} {pos : Pos} (hg : Gl X x) (hm : X.mg x = some u) (r : RelV v u) (hd : ∀ ws B H, DR X.K ws B H v d) (hdb : (x == ("__debug__" : Str)) = false := by decide) : PEm X Wx (.Name x pos) (dC d) := m_c (pe_glob hg hm r hdb) hd

/-! ### operators -/
/-- an operation on values, told by one on data -/
def OpS (K : PySem.W.Frag) (r : R2) (op : D → D → Option D) : Prop := ∀ (ws : Wa) (B : Addr → Prop) (H : Hp) (x y : V) (dx dy d : D) (Q : VK), (∀ a, B a → H a ≠ none) → DW K ws B H x dx → DW K ws B H y dy → op dx dy = some d →
  (∀ v H', Grow H H' → DR K ws B H' v d → Q v H') → r x y H Q
def dBin (op : D → D → Option D) (f g : Dn) : Dn := fun s => (f s).bind fun x s1 => (g s1).bind fun y s2 => Res.opt ((rs s2 x).bind fun a => (rs s2 y).bind fun b => op a b) s2
theorem dBin_go {K : PySem.W.Frag} {mg : Str → Option Value} {r : R2} {op : D → D → Option D} {f g : Dn} (hs : OpS K r op) (σ : L2.St) (H : Hp) (Q : VK) (h : tE K mg Wx (dBin op f g) σ H Q) : tOp r (tE K mg Wx f) (tE K mg Wx g) σ H Q := by
  obtain ⟨ws, B0, s, e, h⟩ := h
  refine ⟨ws, B0, s, e, (runAt.bind h).mono fun ws1 s1 x H1 l1 e1 h1 v hv => ?_⟩
  refine ⟨ws1, B0, s1, e1, (runAt.bind h1).mono fun ws2 s2 y H2 l2 e2 h2 u hu => ?_⟩
  have hv2 := ER.le l2 hv
  cases q1 : rs s2 x with
  | none => rw [q1] at h2; exact h2.elim
  | some a =>
    cases q2 : rs s2 y with
    | none => rw [q1, q2] at h2; exact h2.elim
    | some b =>
      cases q3 : op a b with
      | none => rw [q1, q2] at h2; simp only [Option.bind_some, q3] at h2; exact h2.elim
      | some d =>
        rw [q1, q2] at h2
        simp only [Option.bind_some, q3] at h2
        exact hs ws2 _ H2 v u a b d Q e2.bad (e2.rs hv2 q1) (e2.rs hu q2) q3 fun v' H' g hd => runAt.grow g e2 h2 v' (.inr hd)
theorem m_bin {a b : Expr} {op : Operator} {r : R2} {o : D → D → Option D} {f g : Dn} {pos : Pos} (ho : OpR X (binaryOp op) r) (hs : OpS X.K r o) (ha : PEm X Wx a f) (hb : PEm X Wx b g) : PEm X Wx (.BinOp a op b pos) (dBin o f g) :=
  (pe_op ho ha hb).mimp fun σ H Q h => dBin_go hs σ H Q h
theorem m_cmp {a b : Expr} {op : CmpOp} {r : R2} {o : D → D → Option D} {f g : Dn} {pos : Pos} (ho : OpR X (compareOp op) r) (hs : OpS X.K r o) (ha : PEm X Wx a f) (hb : PEm X Wx b g) (hm : behindInMarks op b = false := by first | exact nomark _ | rfl) : PEm X Wx (.Compare a [op] [b] pos) (dBin o f g) :=
  (pe_cmpR ho ha hb hm).mimp fun σ H Q h => dBin_go hs σ H Q h
end
end Pm
namespace Pm
open PySem L2

/-! ### data: ==, depth -/
mutual
def toPy : D → PyData
  | .non => .none
  | .bl b => .bool b
  | .int i => .int i
  | .str x => .str x
  | .tup l => .tuple (toPys l)
  | .lst l => .list (toPys l)
  | .scr l => .list (l.map PyData.int)
  | .dk _ => .none
  | .dt _ => .none
  | .town => .none
  | .own _ => .none
def toPys : List D → List PyData
  | [] => []
  | d :: r => toPy d :: toPys r
end
mutual
def deq : D → D → Bool
  | .non, .non => true
  | .bl a, .bl b => a == b
  | .bl a, .int j => (if a then 1 else 0) == j
  | .int i, .bl b => i == (if b then 1 else 0)
  | .int i, .int j => i == j
  | .str x, .str y => x == y
  | .tup xs, .tup ys => deqs xs ys
  | .lst xs, .lst ys => deqs xs ys
  | _, _ => false
def deqs : List D → List D → Bool
  | [], [] => true
  | x :: xs, y :: ys => deq x y && deqs xs ys
  | _, _ => false
end
/-- plain data, nested at most n deep -/
def okd : Nat → D → Bool
  | _, .non => true
  | _, .bl _ => true
  | _, .int _ => true
  | _, .str x => PyData.strOk x
  | n + 1, .tup l => l.all (okd n)
  | n + 1, .lst l => l.all (okd n)
  | _, _ => false
theorem toPys_map : ∀ l : List D, toPys l = l.map toPy
  | [] => rfl
  | d :: r => by rw [toPys, toPys_map r]; rfl
theorem deqs_of {n : Nat} (ih : ∀ x y, okd n x = true → okd n y = true → PyData.eqv (toPy x) (toPy y) = deq x y) : ∀ (xs ys : List D), xs.all (okd n) = true → ys.all (okd n) = true → PyData.eqvAll (toPys xs) (toPys ys) = deqs xs ys
  | [], [], _, _ => rfl
  | [], _ :: _, _, _ => rfl
  | _ :: _, [], _, _ => rfl
  | x :: xs, y :: ys, h1, h2 => by
    simp only [List.all_cons, Bool.and_eq_true] at h1 h2
    show (PyData.eqv (toPy x) (toPy y) && PyData.eqvAll (toPys xs) (toPys ys)) = (deq x y && deqs xs ys)
    rw [ih x y h1.1 h2.1, deqs_of ih xs ys h1.2 h2.2]
theorem deq_of : ∀ (n : Nat) (x y : D), okd n x = true → okd n y = true → PyData.eqv (toPy x) (toPy y) = deq x y := by
  intro n
  induction n with
  | zero =>
    intro x y h1 h2
    cases x <;> cases y <;> first
      | rfl
      | (simp [okd] at h1; done)
      | (simp [okd] at h2; done)
      | (simp only [toPy, deq]; rfl)
      | (simp [toPy, deq, PyData.eqv]; done)
  | succ n ih =>
    intro x y h1 h2
    cases x <;> cases y <;> first
      | rfl
      | (simp [okd] at h1; done)
      | (simp [okd] at h2; done)
      | exact deqs_of ih _ _ h1 h2
      | (simp only [toPy, deq]; rfl)
      | (simp [toPy, deq, PyData.eqv]; done)
theorem canLay_all {n : Nat} (ih : ∀ x, okd n x = true → PyData.canLay0 (toPy x) = true) : ∀ l : List D, l.all (okd n) = true → PyData.canLayAll0 (toPys l) = true
  | [], _ => rfl
  | x :: r, h => by
    simp only [List.all_cons, Bool.and_eq_true] at h
    show (PyData.canLay0 (toPy x) && PyData.canLayAll0 (toPys r)) = true
    rw [ih x h.1, canLay_all ih r h.2]; rfl
theorem canLay_of : ∀ (n : Nat) (x : D), okd n x = true → PyData.canLay0 (toPy x) = true := by
  intro n
  induction n with
  | zero => intro x h; cases x <;> first | rfl | exact h | (simp [okd] at h; done)
  | succ n ih => intro x h; cases x <;> first | rfl | exact canLay_all ih _ h | exact h | (simp [okd] at h; done)
theorem depth_all {n : Nat} (ih : ∀ x, okd n x = true → PyData.depth (toPy x) ≤ n) : ∀ l : List D, l.all (okd n) = true → PyData.depthAll (toPys l) ≤ n
  | [], _ => Nat.zero_le _
  | x :: r, h => by
    simp only [List.all_cons, Bool.and_eq_true] at h
    have h1 := ih x h.1
    have h2 := depth_all ih r h.2
    show max (PyData.depth (toPy x)) (PyData.depthAll (toPys r)) ≤ n
    omega
theorem depth_of : ∀ (n : Nat) (x : D), okd n x = true → PyData.depth (toPy x) ≤ n := by
  intro n
  induction n with
  | zero => intro x h; cases x <;> first | exact Nat.le_refl _ | (simp [okd] at h; done)
  | succ n ih =>
    intro x h
    cases x <;> first
      | exact Nat.zero_le _
      | (simp [okd] at h; done)
      | (have q := depth_all ih _ h
         show PyData.depthAll (toPys _) + 1 ≤ n + 1
         omega)
theorem shaped_of {x : D} {n : Nat} (h : okd n x = true) (hn : n ≤ 64) : SeqAt.shaped (toPy x) = true := by
  unfold SeqAt.shaped
  rw [canLay_of n x h, decide_eq_true (Nat.le_trans (depth_of n x h) hn)]; rfl
section
variable {K : PySem.W.Frag} {ws : Wa} {B : Addr → Prop} {H : Hp} {n : Nat}
theorem dp_all (ih : ∀ v d, okd n d = true → DR K ws B H v d → Dp K H v (toPy d)) : ∀ {vs : List V} {ds : List D}, DRs K ws B H vs ds → ds.all (okd n) = true → DpAll K H vs (toPys ds)
  | _, _, .nil, _ => .nil
  | _, _, .cons h r, q => by
    simp only [List.all_cons, Bool.and_eq_true] at q
    exact .cons (ih _ _ q.1 h) (dp_all ih r q.2)
theorem dp_of : ∀ (n : Nat) (v : V) (d : D), okd n d = true → DR K ws B H v d → Dp K H v (toPy d) := by
  intro n
  induction n with
  | zero => intro v d h r; cases r <;> first | exact .non | exact .bl _ | exact .int _ | exact .str _ | (simp [okd] at h; done)
  | succ n ih =>
    intro v d h r
    cases r with
    | non => exact .non
    | bl b => exact .bl b
    | int i => exact .int i
    | str x => exact .str x
    | tup t r => exact .tup t.sq (dp_all ih r h)
    | lst _ t r => exact .lst (.inl (.inl t)) (dp_all ih r h)
    | scr => simp [okd] at h
    | dk => simp [okd] at h
    | dt => simp [okd] at h
    | town => simp [okd] at h
theorem dw_dp {v : V} {d : D} (h : okd n d = true) (r : DW K ws B H v d) : Dp K H v (toPy d) := by
  cases d with
  | non => cases r; exact .non
  | bl b => cases r; exact .bl b
  | int i => cases r; exact .int i
  | str x => cases r; exact .str x
  | tup l =>
    obtain ⟨a, vs, rfl, q, r⟩ := r
    cases n with
    | zero => simp [okd] at h
    | succ n => exact .tup q.sq (dp_all (dp_of n) r h)
  | lst l =>
    obtain ⟨a, vs, rfl, q, r⟩ := r
    cases n with
    | zero => simp [okd] at h
    | succ n => exact .lst (.inl (.inl q)) (dp_all (dp_of n) r h)
  | _ => exact absurd h (by cases n <;> simp [okd])
end

/-! ### the operations -/
instance (i j : Int) : Decidable (CMul i j) := by unfold CMul; infer_instance
instance (i j : Int) : Decidable (CDiv i j) := by unfold CDiv; infer_instance
def addD : D → D → Option D
  | .int i, .int j => some (.int (i + j))
  | .str x, .str y => if x.length + y.length ≤ sizeLine then some (.str (x ++ y)) else none
  | .tup l, .tup m => if l.length + m.length ≤ sizeLine then some (.tup (l ++ m)) else none
  | .lst l, .lst m => if l.length + m.length ≤ sizeLine then some (.lst (l ++ m)) else none
  | _, _ => none
def subD : D → D → Option D
  | .int i, .int j => some (.int (i - j))
  | _, _ => none
def mulD : D → D → Option D
  | .int i, .int j => if CMul i j then some (.int (i * j)) else none
  | .lst l, .int k => if -(2 ^ 63) ≤ k ∧ k < 2 ^ 63 ∧ l.length * k.toNat ≤ sizeLine then some (.lst (List.replicate k.toNat l).flatten) else none
  | _, _ => none
def fdivD : D → D → Option D
  | .int i, .int j => if CDiv i j then some (.int (i / j)) else none
  | _, _ => none
def modD : D → D → Option D
  | .int i, .int j => if 0 < j then some (.int (i % j)) else none
  | _, _ => none
def ltD : D → D → Option D
  | .int i, .int j => some (.bl (decide (i < j)))
  | _, _ => none
def leD : D → D → Option D
  | .int i, .int j => some (.bl (decide (i ≤ j)))
  | .str x, .str y => some (.bl (!decide (y.cps.toList < x.cps.toList)))
  | _, _ => none
def gtD : D → D → Option D
  | .int i, .int j => some (.bl (decide (j < i)))
  | _, _ => none
def geD : D → D → Option D
  | .int i, .int j => some (.bl (decide (j ≤ i)))
  | _, _ => none
def scaD : D → D → Bool
  | .non, .non => true
  | .int _, .int _ => true
  | .bl _, .bl _ => true
  | .str _, .str _ => true
  | _, _ => false
def eqD (x y : D) : Option D := if scaD x y = true ∨ (okd 40 x = true ∧ okd 40 y = true) then some (.bl (deq x y)) else none
def neD (x y : D) : Option D := if scaD x y = true ∨ (okd 40 x = true ∧ okd 40 y = true) then some (.bl (!deq x y)) else none

section
variable {K : PySem.W.Frag}
def rAddM (K : PySem.W.Frag) : R2 := fun x y H Q => (rI0 (fun i j => .int (i + j)) x y H Q ∨ (∃ i j, x = .str i ∧ y = .str j ∧ i.length + j.length ≤ sizeLine ∧ Q (.str (i ++ j)) H)) ∨ (rCatA K x y H Q ∨ rCat x y H Q)
theorem op_addM {X : Cx} : OpR X (binaryOp .Add) (rAddM X.K) := ((op_add).or op_add_str).or (op_catA.or op_cat)
theorem Dw.len {ws : Wa} {B : Addr → Prop} {H : Hp} {vs : List V} {ds : List D} (r : DRs K ws B H vs ds) : vs.length = ds.length := r.length
theorem tp_new {ws : Wa} {B : Addr → Prop} {H : Hp} {p : Addr} {vs : List V} {ds : List D} (hb : ∀ a, B a → H a ≠ none) (hp : H p = none) (r : DRs K ws B H vs ds) : DR K ws B (upd H p (.tup vs)) (.ref p) (.tup ds) :=
  .tup (.inl ⟨fun z => hb p z hp, .inl upd_same⟩) (r.grow (Grow.new hp))
theorem ls_new {ws : Wa} {B : Addr → Prop} {H : Hp} {p : Addr} {vs : List V} {ds : List D} (hb : ∀ a, B a → H a ≠ none) (hp : H p = none) (r : DRs K ws B H vs ds) : DR K ws B (upd H p (.lst vs)) (.ref p) (.lst ds) :=
  .lst (fun z => hb p z hp) upd_same (r.grow (Grow.new hp))
theorem so_add : OpS K (rAddM K) addD := by
  intro ws B H x y dx dy d Q hb hx hy ho q
  cases dx <;> cases dy <;> first
    | (simp [addD] at ho; done)
    | skip
  · rename_i i j
    cases hx; cases hy
    simp only [addD, Option.some.injEq] at ho
    subst ho
    exact .inl (.inl ⟨i, j, rfl, rfl, q _ _ (Grow.refl H) (.int _)⟩)
  · rename_i i j
    cases hx; cases hy
    simp only [addD] at ho
    split at ho
    · rename_i hz
      cases ho
      exact .inl (.inr ⟨i, j, rfl, rfl, hz, q _ _ (Grow.refl H) (.str _)⟩)
    · cases ho
  · rename_i l m
    obtain ⟨a, xs, rfl, ha, ra⟩ := hx
    obtain ⟨b, ys, rfl, hb', rb⟩ := hy
    simp only [addD] at ho
    split at ho
    · rename_i hz
      cases ho
      have l1 := ra.length
      have l2 := rb.length
      refine .inr (.inl ⟨a, b, xs, ys, rfl, rfl, ha.sq, hb'.sq, by omega, fun e => ?_, fun _ e => ?_, fun _ _ p hp => q _ _ (Grow.new hp) (tp_new hb hp (ra.append rb))⟩)
      · subst e
        cases ra
        exact q _ _ (Grow.refl H) (.tup hb' rb)
      · subst e
        cases rb
        rw [List.append_nil] at q
        exact q _ _ (Grow.refl H) (.tup ha ra)
    · cases ho
  · rename_i l m
    obtain ⟨a, xs, rfl, ha, ra⟩ := hx
    obtain ⟨b, ys, rfl, hb', rb⟩ := hy
    simp only [addD] at ho
    split at ho
    · rename_i hz
      cases ho
      have l1 := ra.length
      have l2 := rb.length
      exact .inr (.inr ⟨a, b, xs, ys, rfl, rfl, ha, hb', by omega, fun p hp => q _ _ (Grow.new hp) (ls_new hb hp (ra.append rb))⟩)
    · cases ho
theorem so_I0 {g : Int → Int → V} {gd : Int → Int → D} {op : D → D → Option D} (h1 : ∀ x y d, op x y = some d → ∃ i j, x = .int i ∧ y = .int j ∧ d = gd i j) (hg : ∀ ws B H i j, DR K ws B H (g i j) (gd i j)) : OpS K (rI0 g) op := by
  intro ws B H x y dx dy d Q hb hx hy ho q
  obtain ⟨i, j, rfl, rfl, rfl⟩ := h1 _ _ _ ho
  cases hx; cases hy
  exact ⟨i, j, rfl, rfl, q _ _ (Grow.refl H) (hg _ _ _ i j)⟩
theorem so_I {C : Int → Int → Prop} {g : Int → Int → V} {gd : Int → Int → D} {op : D → D → Option D} (h1 : ∀ x y d, op x y = some d → ∃ i j, x = .int i ∧ y = .int j ∧ C i j ∧ d = gd i j) (hg : ∀ ws B H i j, DR K ws B H (g i j) (gd i j)) : OpS K (rI C g) op := by
  intro ws B H x y dx dy d Q hb hx hy ho q
  obtain ⟨i, j, rfl, rfl, hc, rfl⟩ := h1 _ _ _ ho
  cases hx; cases hy
  exact ⟨i, j, rfl, rfl, hc, q _ _ (Grow.refl H) (hg _ _ _ i j)⟩
theorem so_sub : OpS K (rI0 fun i j => .int (i - j)) subD := so_I0 (gd := fun i j => .int (i - j)) (fun x y d h => by
  cases x <;> cases y <;> first | (simp [subD] at h; done) | (simp only [subD, Option.some.injEq] at h; exact ⟨_, _, rfl, rfl, h.symm⟩)) fun _ _ _ _ _ => .int _
theorem so_fdiv : OpS K (rI CDiv fun i j => .int (i / j)) fdivD := so_I (gd := fun i j => .int (i / j)) (fun x y d h => by
  cases x <;> cases y <;> first | (simp [fdivD] at h; done) | (simp only [fdivD] at h; split at h <;> first | (cases h; exact ⟨_, _, rfl, rfl, by assumption, rfl⟩) | cases h)) fun _ _ _ _ _ => .int _
theorem so_mod : OpS K (rI (fun _ j => 0 < j) fun i j => .int (i % j)) modD := so_I (gd := fun i j => .int (i % j)) (fun x y d h => by
  cases x <;> cases y <;> first | (simp [modD] at h; done) | (simp only [modD] at h; split at h <;> first | (cases h; exact ⟨_, _, rfl, rfl, by assumption, rfl⟩) | cases h)) fun _ _ _ _ _ => .int _
theorem so_lt : OpS K (rI0 fun i j => .bl (decide (i < j))) ltD := so_I0 (gd := fun i j => .bl (decide (i < j))) (fun x y d h => by
  cases x <;> cases y <;> first | (simp [ltD] at h; done) | (simp only [ltD, Option.some.injEq] at h; exact ⟨_, _, rfl, rfl, h.symm⟩)) fun _ _ _ _ _ => .bl _
theorem so_gt : OpS K (rI0 fun i j => .bl (decide (j < i))) gtD := so_I0 (gd := fun i j => .bl (decide (j < i))) (fun x y d h => by
  cases x <;> cases y <;> first | (simp [gtD] at h; done) | (simp only [gtD, Option.some.injEq] at h; exact ⟨_, _, rfl, rfl, h.symm⟩)) fun _ _ _ _ _ => .bl _
theorem so_ge : OpS K (rI0 fun i j => .bl (decide (j ≤ i))) geD := so_I0 (gd := fun i j => .bl (decide (j ≤ i))) (fun x y d h => by
  cases x <;> cases y <;> first | (simp [geD] at h; done) | (simp only [geD, Option.some.injEq] at h; exact ⟨_, _, rfl, rfl, h.symm⟩)) fun _ _ _ _ _ => .bl _
def rLeM : R2 := fun x y H Q => rI0 (fun i j => .bl (decide (i ≤ j))) x y H Q ∨ (∃ i j, x = .str i ∧ y = .str j ∧ Q (.bl (!decide (j.cps.toList < i.cps.toList))) H)
theorem op_leM {X : Cx} : OpR X (compareOp .LtE) rLeM := op_le.or op_le_str
theorem so_le : OpS K rLeM leD := by
  intro ws B H x y dx dy d Q hb hx hy ho q
  cases dx <;> cases dy <;> first
    | (simp [leD] at ho; done)
    | (cases hx; cases hy
       simp only [leD, Option.some.injEq] at ho
       subst ho
       first
         | exact .inl ⟨_, _, rfl, rfl, q _ _ (Grow.refl H) (.bl _)⟩
         | exact .inr ⟨_, _, rfl, rfl, q _ _ (Grow.refl H) (.bl _)⟩)
def rMulM : R2 := fun x y H Q => rI CMul (fun i j => .int (i * j)) x y H Q ∨ rRep x y H Q
theorem op_mulM {X : Cx} : OpR X (binaryOp .Mult) rMulM := op_mul.or op_rep
theorem DRs.rep {ws : Wa} {B : Addr → Prop} {H : Hp} {vs : List V} {ds : List D} (r : DRs K ws B H vs ds) : ∀ n, DRs K ws B H (List.replicate n vs).flatten (List.replicate n ds).flatten
  | 0 => .nil
  | n + 1 => by rw [List.replicate_succ, List.replicate_succ, List.flatten_cons, List.flatten_cons]; exact r.append (DRs.rep r n)
theorem so_mul : OpS K rMulM mulD := by
  intro ws B H x y dx dy d Q hb hx hy ho q
  cases dx <;> cases dy <;> first
    | (simp [mulD] at ho; done)
    | skip
  · cases hx; cases hy
    simp only [mulD] at ho
    split at ho
    · cases ho; exact .inl ⟨_, _, rfl, rfl, by assumption, q _ _ (Grow.refl H) (.int _)⟩
    · cases ho
  · obtain ⟨a, xs, rfl, ha, ra⟩ := hx
    cases hy
    simp only [mulD] at ho
    split at ho
    · rename_i hc
      cases ho
      have l1 := ra.length
      exact .inr ⟨a, _, xs, rfl, rfl, ha, hc.1, hc.2.1, by rw [l1]; exact hc.2.2, fun p hp => q _ _ (Grow.new hp) (ls_new hb hp (ra.rep _))⟩
    · cases ho

/-! ### == -/
def rEqM (K : PySem.W.Frag) : R2 := fun x y H Q => rEq x y H Q ∨ rEqD K x y H Q
def rNeM (K : PySem.W.Frag) : R2 := fun x y H Q => rNe x y H Q ∨ rNeD K x y H Q
theorem op_eqM {X : Cx} (hu : X.A.units + 64 < cLine) : OpR X (compareOp .Eq) (rEqM X.K) := op_eq.or (op_eqD hu)
theorem op_neM {X : Cx} (hu : X.A.units + 64 < cLine) : OpR X (compareOp .NotEq) (rNeM X.K) := op_ne.or (op_neD hu)
theorem sca_eq {ws : Wa} {B : Addr → Prop} {H : Hp} {x y : V} {dx dy : D} (h : scaD dx dy = true) (hx : DW K ws B H x dx) (hy : DW K ws B H y dy) : scal x y = true ∧ decide (x = y) = deq dx dy := by
  cases dx <;> cases dy <;> first
    | (simp [scaD] at h; done)
    | (cases hx; cases hy
       refine ⟨rfl, ?_⟩
       first
         | rfl
         | (simp only [deq]
            rw [Bool.beq_eq_decide_eq]
            congr 1
            simp)
         | (simp only [deq]
            rw [Bool.eq_iff_iff]
            simp))
theorem so_eq : OpS K (rEqM K) eqD := by
  intro ws B H x y dx dy d Q hb hx hy ho q
  unfold eqD at ho
  split at ho
  · rename_i hc
    cases ho
    rcases hc with hc | ⟨h1, h2⟩
    · obtain ⟨e1, e2⟩ := sca_eq hc hx hy
      exact .inl ⟨e1, by rw [e2]; exact q _ _ (Grow.refl H) (.bl _)⟩
    · refine .inr ⟨_, _, dw_dp h1 hx, dw_dp h2 hy, shaped_of h1 (by decide), shaped_of h2 (by decide), ?_⟩
      rw [deq_of 40 _ _ h1 h2]
      exact q _ _ (Grow.refl H) (.bl _)
  · cases ho
theorem so_ne : OpS K (rNeM K) neD := by
  intro ws B H x y dx dy d Q hb hx hy ho q
  unfold neD at ho
  split at ho
  · rename_i hc
    cases ho
    rcases hc with hc | ⟨h1, h2⟩
    · obtain ⟨e1, e2⟩ := sca_eq hc hx hy
      exact .inl ⟨e1, by rw [e2]; exact q _ _ (Grow.refl H) (.bl _)⟩
    · refine .inr ⟨_, _, dw_dp h1 hx, dw_dp h2 hy, shaped_of h1 (by decide), shaped_of h2 (by decide), ?_⟩
      rw [deq_of 40 _ _ h1 h2]
      exact q _ _ (Grow.refl H) (.bl _)
  · cases ho
end
end Pm
namespace Pm
open PySem L2

/-! ### tests -/
def truD : D → Option Bool
  | .non => some false
  | .bl b => some b
  | .int i => some (i != 0)
  | .str x => if x.length ≤ sizeLine then some ((x.length : Int) != 0) else none
  | .tup l => some (!l.isEmpty)
  | .lst l => some (!l.isEmpty)
  | .scr l => some (!l.isEmpty)
  | .dk l => some (!l.isEmpty)
  | _ => none
def bTru (f : Dn) : Bn := fun s => (f s).bind fun d s1 => Res.opt ((rs s1 d).bind truD) s1
/-- a bool -/
def bOf (f : Dn) : Bn := fun s => (f s).bind fun d s1 => match d with
  | .bl b => .ok b s1
  | _ => .bad
def bAnd (f g : Bn) : Bn := fun s => (f s).bind fun b s1 => if b = true then g s1 else .ok false s1
def bOr (f g : Bn) : Bn := fun s => (f s).bind fun b s1 => if b = true then .ok true s1 else g s1
def bNot (f : Bn) : Bn := fun s => (f s).bind fun b s1 => .ok (!b) s1
def dB (f : Bn) : Dn := fun s => (f s).bind fun b s1 => .ok (.bl b) s1
def dIf (c : Bn) (f g : Dn) : Dn := fun s => (c s).bind fun b s1 => if b = true then f s1 else g s1
def dAnd (f g : Dn) : Dn := fun s => (f s).bind fun x s1 => match x with
  | .bl true => g s1
  | .bl false => .ok (.bl false) s1
  | _ => .bad
def dOr (f g : Dn) : Dn := fun s => (f s).bind fun x s1 => match x with
  | .bl true => .ok (.bl true) s1
  | .bl false => g s1
  | _ => .bad
def dNot (f : Dn) : Dn := fun s => (f s).bind fun d s1 => Res.opt ((rs s1 d).bind fun x => (truD x).map fun b => .bl (!b)) s1

section
variable {K : PySem.W.Frag} {mg : Str → Option Value} {Wx : WX} {ws : Wa} {B0 : Addr → Prop} {s : S} {σ : L2.St} {H : Hp} {v : V}
theorem tru_of {B : Addr → Prop} {d : D} {b : Bool} (h : DW K ws B H v d) (ht : truD d = some b) : TruV K v H b := by
  cases d with
  | non => cases h; cases ht; rfl
  | bl => cases h; cases ht; rfl
  | int => cases h; cases ht; rfl
  | str x =>
    cases h
    simp only [truD] at ht
    split at ht
    · cases ht; exact ⟨by assumption, rfl⟩
    · cases ht
  | tup l =>
    obtain ⟨a, vs, rfl, q, r⟩ := h
    cases ht
    exact .inr (.inl ⟨vs, q.sq, by cases r <;> rfl⟩)
  | lst l =>
    obtain ⟨a, vs, rfl, q, r⟩ := h
    cases ht
    exact .inl ⟨vs, .inl (.inl q), by cases r <;> rfl⟩
  | scr l =>
    obtain ⟨a, rfl, q⟩ := h
    cases ht
    exact .inl ⟨_, q, by cases l <;> rfl⟩
  | dk l =>
    obtain ⟨a, kvs, rfl, q, e, r⟩ := h
    cases ht
    refine .inr (.inr ⟨kvs, q, ?_⟩)
    cases kvs <;> cases l <;> first | rfl | simp at e
  | dt => cases ht
  | town => cases ht
  | own => cases ht
theorem opt_some_of {α β : Type} {o : Option α} {f : α → Option β} {k : Wa → S → β → Hp → Prop} (h : runAt K mg Wx ws B0 s σ H (Res.opt (o.bind f) s) k) : ∃ a b, o = some a ∧ f a = some b ∧ runAt K mg Wx ws B0 s σ H (.ok b s) k := by
  cases o with
  | none => exact h.elim
  | some a =>
    cases q : f a with
    | none => rw [Option.bind_some, q] at h; exact h.elim
    | some b => rw [Option.bind_some, q] at h; exact ⟨a, b, rfl, q, h⟩
theorem bOf_go {F : Dn} {Q : Bool → Hp → Prop} (h : tT K mg Wx (bOf F) σ H Q) : tE K mg Wx F σ H (fun x H' => ∃ k, x = .bl k ∧ Q k H') := by
  obtain ⟨ws, B0, s, e, h⟩ := h
  refine ⟨ws, B0, s, e, (runAt.bind h).mono fun ws1 s1 d H1 l1 e1 h1 v hv => ?_⟩
  cases d with
  | bl b =>
    rcases hv with ⟨i, z, _⟩ | hv
    · cases z
    · cases hv
      exact ⟨b, rfl, runAt.here e1 h1⟩
  | _ => exact h1.elim
end
section
variable {X : Cx} {Wx : WX} {a b c : Expr} {pos : Pos}
theorem mt_truth {f : Dn} (ha : PEm X Wx a f) (he : ∀ whole, isTrue a X.env whole = (do let v ← whole; standAt a.pos; holding [v] (truthy v)) := by intro _; rfl) : PTm X Wx a (bTru f) := by
  refine (pt_truth ha he).mimp fun σ H Q ⟨ws, B0, s, e, h⟩ => ?_
  refine ⟨ws, B0, s, e, (runAt.bind h).mono fun ws1 s1 d H1 l1 e1 h1 v hv => ?_⟩
  obtain ⟨x, b, q1, q2, h1⟩ := opt_some_of h1
  exact ⟨b, tru_of (e1.rs hv q1) q2, runAt.here e1 h1⟩
theorem mt_cmp {op : CmpOp} {r : R2} {o : D → D → Option D} {f g : Dn} (ho : OpR X (compareOp op) r) (hs : OpS X.K r o) (ha : PEm X Wx a f) (hb : PEm X Wx b g) (hm : behindInMarks op b = false := by first | exact nomark _ | rfl) : PTm X Wx (.Compare a [op] [b] pos) (bOf (dBin o f g)) :=
  (pt_cmpR ho ha hb hm).mimp fun σ H Q h => dBin_go hs σ H _ (bOf_go h)
def dChain (o o' : D → D → Option D) (f g h : Dn) : Dn := fun s => (f s).bind fun x s1 => (g s1).bind fun y s2 => (Res.opt ((rs s2 x).bind fun a => (rs s2 y).bind fun b => o a b) s2).bind fun z s3 => match z with
  | .bl true => (h s3).bind fun w s4 => Res.opt ((rs s4 y).bind fun a => (rs s4 w).bind fun b => o' a b) s4
  | .bl false => .ok (.bl false) s3
  | _ => .bad
theorem dChain_go {K : PySem.W.Frag} {mg : Str → Option Value} {r r' : R2} {o o' : D → D → Option D} {f g h : Dn} (hs : OpS K r o) (hs' : OpS K r' o') (σ : L2.St) (H : Hp) (Q : VK) (q : tE K mg Wx (dChain o o' f g h) σ H Q) :
    tChain r r' (tE K mg Wx f) (tE K mg Wx g) (tE K mg Wx h) σ H Q := by
  obtain ⟨ws, B0, s, e, q⟩ := q
  refine ⟨ws, B0, s, e, (runAt.bind q).mono fun ws1 s1 x H1 l1 e1 h1 v hv => ?_⟩
  refine ⟨ws1, B0, s1, e1, (runAt.bind h1).mono fun ws2 s2 y H2 l2 e2 h2 u hu => ?_⟩
  have hv2 := ER.le l2 hv
  cases q1 : rs s2 x with
  | none => rw [q1] at h2; exact h2.elim
  | some a =>
    cases q2 : rs s2 y with
    | none => rw [q1, q2] at h2; exact h2.elim
    | some b =>
      rw [q1, q2] at h2
      simp only [Option.bind_some] at h2
      cases q3 : o a b with
      | none => rw [q3] at h2; exact h2.elim
      | some z =>
        rw [q3] at h2
        simp only [opt_some, bind_ok] at h2
        refine hs ws2 _ H2 v u a b z _ e2.bad (e2.rs hv2 q1) (e2.rs hu q2) q3 fun v' H' gr hd => ?_
        have h3 := runAt.le (gr.le ws2 (Own s2 σ)) h2
        have e3 := e2.grow gr
        cases z with
        | bl k =>
          cases hd
          refine ⟨k, rfl, ?_⟩
          cases k with
          | true =>
            rw [if_pos rfl]
            refine ⟨ws2, B0, s2, e3, (runAt.bind h3).mono fun ws4 s4 w H4 l4 e4 h4 w' hw => ?_⟩
            have hu4 := ER.le ((gr.le ws2 (Own s2 σ)).trans l4) hu
            cases p1 : rs s4 y with
            | none => rw [p1] at h4; exact h4.elim
            | some a4 =>
              cases p2 : rs s4 w with
              | none => rw [p1, p2] at h4; exact h4.elim
              | some b4 =>
                rw [p1, p2] at h4
                simp only [Option.bind_some] at h4
                cases p3 : o' a4 b4 with
                | none => rw [p3] at h4; exact h4.elim
                | some d4 =>
                  rw [p3] at h4
                  exact hs' ws4 _ H4 u w' a4 b4 d4 Q e4.bad (e4.rs hu4 p1) (e4.rs hw p2) p3 fun v' H' g hd => runAt.grow g e4 h4 v' (.inr hd)
          | false =>
            rw [if_neg Bool.false_ne_true]
            exact runAt.here e3 h3 _ (.inr (.bl false))
        | _ => exact h3.elim
theorem m_chain {op op' : CmpOp} {r r' : R2} {o o' : D → D → Option D} {f g h : Dn} (ho : OpR X (compareOp op) r) (hs : OpS X.K r o) (ho' : OpR X (compareOp op') r') (hs' : OpS X.K r' o') (ha : PEm X Wx a f) (hb : PEm X Wx b g) (hc : PEm X Wx c h)
    (hm : lastMarks [op, op'] [b, c] = false := by with_unfolding_all rfl) : PEm X Wx (.Compare a [op, op'] [b, c] pos) (dChain o o' f g h) :=
  (pe_chain ho ho' ha hb hc hm).mimp fun σ H Q q => dChain_go hs hs' σ H Q q
theorem mt_chain {op op' : CmpOp} {r r' : R2} {o o' : D → D → Option D} {f g h : Dn} (ho : OpR X (compareOp op) r) (hs : OpS X.K r o) (ho' : OpR X (compareOp op') r') (hs' : OpS X.K r' o') (ha : PEm X Wx a f) (hb : PEm X Wx b g) (hc : PEm X Wx c h)
    (hm : lastMarks [op, op'] [b, c] = false := by with_unfolding_all rfl) : PTm X Wx (.Compare a [op, op'] [b, c] pos) (bOf (dChain o o' f g h)) :=
  (pt_chain ho ho' ha hb hc hm).mimp fun σ H Q q => dChain_go hs hs' σ H _ (bOf_go q)

abbrev PWm (X : Cx) (Wx : WX) (e : Expr) (f : Bn) : Prop := PW X e (tT X.K X.mg Wx f)
theorem _root_.L2.PW.mimp {X : Cx} {e : Expr} {t t' : TT} (h : PW X e t) (f : ∀ σ H Q, t' σ H Q → t σ H Q) : PW X e t' := ⟨fun wh pins s σ H Q I q => h.run wh pins s σ H Q I (f _ _ _ q)⟩
variable {rest : List Expr}
theorem mw_and1 {f : Bn} (ha : PTm X Wx a f) : PWm X Wx (.BoolOp .And [a] pos) f := pw_and1 ha
theorem mw_or1 {f : Bn} (ha : PTm X Wx a f) : PWm X Wx (.BoolOp .Or [a] pos) f := pw_or1 ha
theorem bAnd_go {K : PySem.W.Frag} {mg : Str → Option Value} {f g : Bn} (σ : L2.St) (H : Hp) (Q : Bool → Hp → Prop) (h : tT K mg Wx (bAnd f g) σ H Q) : tAnd (tT K mg Wx f) (tT K mg Wx g) σ H Q := by
  obtain ⟨ws, B0, s, e, h⟩ := h
  refine ⟨ws, B0, s, e, (runAt.bind h).mono fun ws1 s1 b H1 l1 e1 h1 => ?_⟩
  cases b with
  | true => exact ⟨ws1, B0, s1, e1, h1⟩
  | false => exact runAt.here e1 h1
theorem bOr_go {K : PySem.W.Frag} {mg : Str → Option Value} {f g : Bn} (σ : L2.St) (H : Hp) (Q : Bool → Hp → Prop) (h : tT K mg Wx (bOr f g) σ H Q) : tOr (tT K mg Wx f) (tT K mg Wx g) σ H Q := by
  obtain ⟨ws, B0, s, e, h⟩ := h
  refine ⟨ws, B0, s, e, (runAt.bind h).mono fun ws1 s1 b H1 l1 e1 h1 => ?_⟩
  cases b with
  | true => exact runAt.here e1 h1
  | false => exact ⟨ws1, B0, s1, e1, h1⟩
theorem mw_and {f g : Bn} (ha : PTm X Wx a f) (hb : PWm X Wx (.BoolOp .And (b :: rest) pos) g) : PWm X Wx (.BoolOp .And (a :: b :: rest) pos) (bAnd f g) := (pw_and ha hb).mimp fun σ H Q h => bAnd_go σ H Q h
theorem mw_or {f g : Bn} (ha : PTm X Wx a f) (hb : PWm X Wx (.BoolOp .Or (b :: rest) pos) g) : PWm X Wx (.BoolOp .Or (a :: b :: rest) pos) (bOr f g) := (pw_or ha hb).mimp fun σ H Q h => bOr_go σ H Q h
theorem mt_w {f : Bn} (h : PWm X Wx a f) : PTm X Wx a f := h.pt
theorem mt_not {f : Bn} (ha : PTm X Wx a f) : PTm X Wx (.UnaryOp .Not a pos) (bNot f) := by
  refine (pt_not ha).mimp fun σ H Q ⟨ws, B0, s, e, h⟩ => ?_
  exact ⟨ws, B0, s, e, (runAt.bind h).mono fun ws1 s1 b H1 l1 e1 h1 => runAt.here e1 h1⟩
theorem m_and {f g : Dn} (ha : PEm X Wx a f) (hb : PEm X Wx (.BoolOp .And (b :: rest) pos) g) : PEm X Wx (.BoolOp .And (a :: b :: rest) pos) (dAnd f g) := by
  refine (pe_and ha hb).mimp fun σ H Q ⟨ws, B0, s, e, h⟩ => ?_
  refine ⟨ws, B0, s, e, (runAt.bind h).mono fun ws1 s1 x H1 l1 e1 h1 v hv => ?_⟩
  cases x with
  | bl k =>
    rcases hv with ⟨i, z, _⟩ | hv
    · cases z
    · cases hv
      refine ⟨k, rfl, ?_⟩
      cases k with
      | true => exact ⟨ws1, B0, s1, e1, h1⟩
      | false => exact runAt.here e1 h1 _ (.inr (.bl false))
  | _ => exact h1.elim
theorem m_or {f g : Dn} (ha : PEm X Wx a f) (hb : PEm X Wx (.BoolOp .Or (b :: rest) pos) g) : PEm X Wx (.BoolOp .Or (a :: b :: rest) pos) (dOr f g) := by
  refine (pe_or ha hb).mimp fun σ H Q ⟨ws, B0, s, e, h⟩ => ?_
  refine ⟨ws, B0, s, e, (runAt.bind h).mono fun ws1 s1 x H1 l1 e1 h1 v hv => ?_⟩
  cases x with
  | bl k =>
    rcases hv with ⟨i, z, _⟩ | hv
    · cases z
    · cases hv
      refine ⟨k, rfl, ?_⟩
      cases k with
      | true => exact runAt.here e1 h1 _ (.inr (.bl true))
      | false => exact ⟨ws1, B0, s1, e1, h1⟩
  | _ => exact h1.elim
theorem m_one {op} {f : Dn} (ha : PEm X Wx a f) : PEm X Wx (.BoolOp op [a] pos) f := pe_one ha
theorem m_not {f : Dn} (ha : PEm X Wx a f) : PEm X Wx (.UnaryOp .Not a pos) (dNot f) := by
  refine (pe_notT ha).mimp fun σ H Q ⟨ws, B0, s, e, h⟩ => ?_
  refine ⟨ws, B0, s, e, (runAt.bind h).mono fun ws1 s1 d H1 l1 e1 h1 v hv => ?_⟩
  obtain ⟨x, y, q1, q2, h1⟩ := opt_some_of h1
  cases q3 : truD x with
  | none => rw [q3] at q2; cases q2
  | some b =>
    rw [q3] at q2
    cases q2
    exact ⟨b, tru_of (e1.rs hv q1) q3, runAt.here e1 h1 _ (.inr (.bl _))⟩
theorem m_if {cf : Bn} {f g : Dn} (hc : PTm X Wx c cf) (ha : PEm X Wx a f) (hb : PEm X Wx b g) : PEm X Wx (.IfExp c a b pos) (dIf cf f g) := by
  refine (pe_ifExp hc ha hb).mimp fun σ H Q ⟨ws, B0, s, e, h⟩ => ?_
  refine ⟨ws, B0, s, e, (runAt.bind h).mono fun ws1 s1 b H1 l1 e1 h1 => ?_⟩
  cases b with
  | true => exact ⟨ws1, B0, s1, e1, h1⟩
  | false => exact ⟨ws1, B0, s1, e1, h1⟩
/-- - x -/
def dNeg (f : Dn) : Dn := fun s => (f s).bind fun d s1 => match d with
  | .int i => .ok (.int (-i)) s1
  | _ => .bad
theorem m_neg {f : Dn} (ha : PEm X Wx a f) : PEm X Wx (.UnaryOp .USub a pos) (dNeg f) := by
  refine (pe_un un_neg ha).mimp fun σ H Q ⟨ws, B0, s, e, h⟩ => ?_
  refine ⟨ws, B0, s, e, (runAt.bind h).mono fun ws1 s1 d H1 l1 e1 h1 v hv => ?_⟩
  cases d with
  | int i =>
    rcases hv with ⟨j, z, _⟩ | hv
    · cases z
    · cases hv
      exact ⟨i, rfl, runAt.here e1 h1 _ (.inr (.int _))⟩
  | _ => exact h1.elim

/-! ### argument lists, displays -/
def aNil : An := fun s => .ok [] s
def aCons (f : Dn) (g : An) : An := fun s => (f s).bind fun x s1 => (g s1).bind fun xs s2 => .ok (x :: xs) s2
variable {e : Expr} {es : List Expr}
theorem ma_nil : PAm X Wx [] aNil := pa_nil.mimp fun σ H Q ⟨ws, B0, s, e, h⟩ => runAt.here e h [] .nil
theorem ma_cons {f : Dn} {g : An} (ha : PEm X Wx e f) (hr : PAm X Wx es g) (hs : starEach (e :: es) X.env = (false, eval e X.env) :: starEach es X.env := by rfl) : PAm X Wx (e :: es) (aCons f g) := by
  refine (pa_cons ha hr hs).mimp fun σ H Q ⟨ws, B0, s, e, h⟩ => ?_
  refine ⟨ws, B0, s, e, (runAt.bind h).mono fun ws1 s1 x H1 l1 e1 h1 v hv => ?_⟩
  refine ⟨ws1, B0, s1, e1, (runAt.bind h1).mono fun ws2 s2 xs H2 l2 e2 h2 vs hvs => ?_⟩
  exact runAt.here e2 h2 _ (.cons (ER.le l2 hv) hvs)
/-- tokens that go elsewhere -/
def fzs : List D → S → Res (List D)
  | [], s => .ok [] s
  | d :: r, s => (fz d s).bind fun d' s1 => (fzs r s1).bind fun r' s2 => .ok (d' :: r') s2
end
section
variable {K : PySem.W.Frag} {mg : Str → Option Value} {Wx : WX} {ws : Wa} {B0 : Addr → Prop} {σ : L2.St} {H : Hp}
theorem ERs.le {s s' : S} {ws' : Wa} {H' : Hp} (l : Le ws (Own s σ) H ws' (Own s' σ) H') : ∀ {vs : List V} {ds : List D}, ERs K ws B0 s σ H vs ds → ERs K ws' B0 s' σ H' vs ds
  | _, _, .nil => .nil
  | _, _, .cons h r => .cons (ER.le l h) (ERs.le l r)
theorem fzs_ok : ∀ {vs : List V} {ds ds' : List D} {s s' : S}, Env K ws B0 s σ H → ERs K ws B0 s σ H vs ds → fzs ds s = .ok ds' s' →
    Le ws (Own s σ) H ws (Own s' σ) H ∧ Env K ws B0 s' σ H ∧ DRs K ws (Bad ws B0 s' σ) H vs ds'
  | _, _, ds', s, s', e, .nil, h => by
    cases h
    exact ⟨Le.refl _ _ _, e, .nil⟩
  | _, _, ds', s, s', e, .cons (a := v) (b := d) (l₁ := vs) (l₂ := ds) h1 hr, h => by
    unfold fzs at h
    cases q1 : fz d s with
    | bad => rw [q1] at h; cases h
    | ex c s1 => exact (fz_noex q1).elim
    | ok d1 s1 =>
      rw [q1] at h
      simp only [bind_ok] at h
      obtain ⟨l1, e1, r1⟩ := fz_ok e h1 q1
      cases q2 : fzs ds s1 with
      | bad => rw [q2] at h; cases h
      | ex c s2 => rw [q2] at h; cases h
      | ok ds2 s2 =>
        rw [q2] at h
        cases h
        obtain ⟨l2, e2, r2⟩ := fzs_ok e1 (ERs.le l1 hr) q2
        exact ⟨l1.trans l2, e2, .cons (r1.le l2) r2⟩
theorem fzs_noex : ∀ {ds : List D} {s s' : S} {c : Str}, fzs ds s = .ex c s' → False
  | [], s, s', c, h => by cases h
  | d :: r, s, s', c, h => by
    unfold fzs at h
    cases q1 : fz d s with
    | bad => rw [q1] at h; cases h
    | ex c s1 => exact (fz_noex q1).elim
    | ok d1 s1 =>
      rw [q1] at h
      simp only [bind_ok] at h
      cases q2 : fzs r s1 with
      | bad => rw [q2] at h; cases h
      | ex c s2 => exact fzs_noex q2
      | ok ds2 s2 => rw [q2] at h; cases h
/-- what is frozen, then goes on -/
theorem runAt.fzs {β : Type} {s : S} {vs : List V} {ds : List D} {g : List D → S → Res β} {k : Wa → S → β → Hp → Prop} (e : Env K ws B0 s σ H) (hv : ERs K ws B0 s σ H vs ds) (h : runAt K mg Wx ws B0 s σ H ((Pm.fzs ds s).bind g) k) :
    ∃ ds' s', Le ws (Own s σ) H ws (Own s' σ) H ∧ Env K ws B0 s' σ H ∧ DRs K ws (Bad ws B0 s' σ) H vs ds' ∧ runAt K mg Wx ws B0 s' σ H (g ds' s') k := by
  cases q : Pm.fzs ds s with
  | bad => rw [q] at h; exact h.elim
  | ex c s' => exact (fzs_noex q).elim
  | ok ds' s' =>
    rw [q] at h
    obtain ⟨l, e', r⟩ := fzs_ok e hv q
    exact ⟨ds', s', l, e', r, runAt.le l h⟩
theorem runAt.fz {β : Type} {s : S} {v : V} {d : D} {g : D → S → Res β} {k : Wa → S → β → Hp → Prop} (e : Env K ws B0 s σ H) (hv : ER K ws B0 s σ H v d) (h : runAt K mg Wx ws B0 s σ H ((Pm.fz d s).bind g) k) :
    ∃ d' s', Le ws (Own s σ) H ws (Own s' σ) H ∧ Env K ws B0 s' σ H ∧ DR K ws (Bad ws B0 s' σ) H v d' ∧ runAt K mg Wx ws B0 s' σ H (g d' s') k := by
  cases q : Pm.fz d s with
  | bad => rw [q] at h; exact h.elim
  | ex c s' => exact (fz_noex q).elim
  | ok d' s' =>
    rw [q] at h
    obtain ⟨l, e', r⟩ := fz_ok e hv q
    exact ⟨d', s', l, e', r, runAt.le l h⟩
end
section
variable {X : Cx} {Wx : WX} {e a b : Expr} {es : List Expr} {pos : Pos}
def dTup (g : An) : Dn := fun s => (g s).bind fun ds s1 => (fzs ds s1).bind fun es s2 => if es.length ≤ sizeLine then .ok (.tup es) s2 else .bad
def dLst (g : An) : Dn := fun s => (g s).bind fun ds s1 => (fzs ds s1).bind fun es s2 => if es.length ≤ sizeLine then .ok (.lst es) s2 else .bad
theorem m_tup {g : An} {x1} (h : PAm X Wx es g) : PEm X Wx (.Tuple es x1 pos) (dTup g) := by
  refine (pe_tup h).mimp fun σ H Q ⟨ws, B0, s, e, h⟩ => ?_
  refine ⟨ws, B0, s, e, (runAt.bind h).mono fun ws1 s1 ds H1 l1 e1 h1 vs hvs => ?_⟩
  obtain ⟨ds', s2, l2, e2, r2, h2⟩ := runAt.fzs e1 hvs h1
  have hl := r2.length
  split at h2
  · exact ⟨by omega, fun p hp => runAt.grow (Grow.new hp) e2 h2 _ (.inr (tp_new e2.bad hp r2))⟩
  · exact h2.elim
theorem m_lst {g : An} (h : PAm X Wx es g) : PEm X Wx (.List es pos) (dLst g) := by
  refine (pe_lst h).mimp fun σ H Q ⟨ws, B0, s, e, h⟩ => ?_
  refine ⟨ws, B0, s, e, (runAt.bind h).mono fun ws1 s1 ds H1 l1 e1 h1 vs hvs => ?_⟩
  obtain ⟨ds', s2, l2, e2, r2, h2⟩ := runAt.fzs e1 hvs h1
  have hl := r2.length
  split at h2
  · exact ⟨by omega, fun p hp => runAt.grow (Grow.new hp) e2 h2 _ (.inr (ls_new e2.bad hp r2))⟩
  · exact h2.elim
end
end Pm
namespace Pm
open PySem L2

/-! ### o[i] -/
def ixD : D → D → Option D
  | .tup l, .int i => atI l i
  | .lst l, .int i => atI l i
  | .scr l, .int i => (atI l i).map .int
  | .str z, .int i => if z.length ≤ sizeLine then (atI z.cps.toList i).map fun c => .str ⟨#[c]⟩ else none
  | _, _ => none
section
variable {K : PySem.W.Frag} {ws : Wa} {B : Addr → Prop} {H : Hp}
theorem atI_DRs {vs : List V} {ds : List D} {i : Int} {d : D} (r : DRs K ws B H vs ds) (h : atI ds i = some d) : ∃ v, atI vs i = some v ∧ DR K ws B H v d := by
  unfold atI at h ⊢
  rw [r.length]
  cases q : ixN ds.length i with
  | none => rw [q] at h; cases h
  | some j =>
    rw [q] at h
    obtain ⟨v, h1, h2⟩ := r.get h
    exact ⟨v, h1, h2⟩
theorem atI_map {α β : Type} (f : α → β) (l : List α) (i : Int) : atI (l.map f) i = (atI l i).map f := by
  unfold atI
  rw [List.length_map]
  cases ixN l.length i with
  | none => rfl
  | some j => simp
theorem so_ix : OpS K (rIx K) ixD := by
  intro ws B H x y dx dy d Q hb hx hy ho q
  cases dx <;> cases dy <;> first
    | (simp [ixD] at ho; done)
    | skip
  · cases hx; cases hy
    simp only [ixD] at ho
    split at ho
    · rename_i z i hz
      cases e : atI z.cps.toList i with
      | none => rw [e] at ho; cases ho
      | some c =>
        rw [e] at ho
        cases ho
        exact .inr (.inr ⟨z, i, c, rfl, rfl, hz, e, q _ _ (Grow.refl H) (.str _)⟩)
    · cases ho
  · obtain ⟨a, vs, rfl, t, r⟩ := hx
    cases hy
    obtain ⟨v, h1, h2⟩ := atI_DRs r ho
    exact .inr (.inl ⟨a, vs, _, v, rfl, rfl, t.sq, h1, q _ _ (Grow.refl H) h2⟩)
  · obtain ⟨a, vs, rfl, t, r⟩ := hx
    cases hy
    obtain ⟨v, h1, h2⟩ := atI_DRs r ho
    exact .inl ⟨a, vs, _, v, rfl, rfl, .inl (.inl t), h1, q _ _ (Grow.refl H) h2⟩
  · obtain ⟨a, rfl, t⟩ := hx
    cases hy
    rename_i l i
    simp only [ixD] at ho
    cases e : atI l i with
    | none => rw [e] at ho; cases ho
    | some c =>
      rw [e] at ho
      cases ho
      exact .inl ⟨a, _, i, .int c, rfl, rfl, t, by rw [atI_map, e]; rfl, q _ _ (Grow.refl H) (.int _)⟩
end
section
variable {X : Cx} {Wx : WX} {a b e : Expr} {pos : Pos}
theorem m_ix {f g : Dn} (ha : PEm X Wx a f) (hb : PEm X Wx b g) (hs : PlainIx b := by exact fun _ _ => rfl) : PEm X Wx (.Subscript a b pos) (dBin ixD f g) :=
  (pe_ix ix_seq ha hb hs).mimp fun σ H Q h => dBin_go so_ix σ H Q h

/-! ### o[i:j] -/
def cutL {α : Type} (xs : List α) (lo hi : Option Int) : List α := (xs.drop (HT.sIx xs.length 0 lo)).take (HT.sIx xs.length xs.length hi - HT.sIx xs.length 0 lo)
def slD : D → Option Int → Option Int → Option D
  | .tup l, lo, hi => some (.tup (cutL l lo hi))
  | .lst l, lo, hi => some (.lst (cutL l lo hi))
  | .str z, lo, hi => if z.length ≤ sizeLine then some (.str (cutS z lo hi)) else none
  | _, _, _ => none
abbrev On := S → Res (Option Int)
def oNone : On := fun s => .ok none s
def oSome (f : Dn) : On := fun s => (f s).bind fun d s1 => match d with
  | .int i => .ok (some i) s1
  | _ => .bad
def tOm (K : PySem.W.Frag) (mg : Str → Option Value) (Wx : WX) (f : On) : TO := fun σ H Q => ∃ ws B0 s, Env K ws B0 s σ H ∧ runAt K mg Wx ws B0 s σ H (f s) fun _ _ o H' => Q o H'
abbrev POm (X : Cx) (Wx : WX) (e : Option Expr) (f : On) : Prop := PO X e (tOm X.K X.mg Wx f)
theorem _root_.L2.PO.mimp {X : Cx} {e : Option Expr} {t t' : TO} (h : PO X e t) (f : ∀ σ H Q, t' σ H Q → t σ H Q) : PO X e t' := ⟨fun pins s σ H Q I q => h.run pins s σ H Q I (f _ _ _ q)⟩
theorem mo_none : POm X Wx none oNone := po_none.mimp fun σ H Q ⟨ws, B0, s, e, h⟩ => runAt.here e h
theorem mo_some {f : Dn} (h : PEm X Wx e f) : POm X Wx (some e) (oSome f) := by
  refine (po_some h).mimp fun σ H Q ⟨ws, B0, s, e, h⟩ => ?_
  refine ⟨ws, B0, s, e, (runAt.bind h).mono fun ws1 s1 d H1 l1 e1 h1 v hv => ?_⟩
  cases d with
  | int i =>
    rcases hv with ⟨j, z, _⟩ | hv
    · cases z
    · cases hv
      exact ⟨i, rfl, runAt.here e1 h1⟩
  | _ => exact h1.elim
def dSl (f : Dn) (lo hi : On) : Dn := fun s => (f s).bind fun x s1 => (lo s1).bind fun i s2 => (hi s2).bind fun j s3 => Res.opt ((rs s3 x).bind fun y => slD y i j) s3
def rSlM (K : PySem.W.Frag) : V → Option Int → Option Int → Hp → VK → Prop := fun x lo hi H Q => rSlA K x lo hi H Q ∨ (rSlL K x lo hi H Q ∨ rSlS x lo hi H Q)
theorem sl_M : SlR X (rSlM X.K) := sl_tupA.or (sl_list.or sl_str)
theorem so_sl {K : PySem.W.Frag} {ws : Wa} {B : Addr → Prop} {H : Hp} {x : V} {dx d : D} {lo hi : Option Int} {Q : VK} (hb : ∀ a, B a → H a ≠ none) (hx : DW K ws B H x dx) (ho : slD dx lo hi = some d) (q : ∀ v H', Grow H H' → DR K ws B H' v d → Q v H') : rSlM K x lo hi H Q := by
  cases dx with
  | tup l =>
    obtain ⟨a, vs, rfl, t, r⟩ := hx
    cases ho
    have hl := r.length
    refine .inl ⟨a, vs, rfl, t.sq, fun z => ?_, fun _ p hp => q _ _ (Grow.new hp) (tp_new hb hp ?_)⟩
    · have e : cutL l lo hi = l := by
        unfold cutL
        rw [← hl, z.1, z.2, List.drop_zero, Nat.sub_zero, hl, List.take_length]
      rw [e] at q
      exact q _ _ (Grow.refl H) (.tup t r)
    · unfold cutV cutL
      rw [hl]
      exact (r.drop _).take _
  | lst l =>
    obtain ⟨a, vs, rfl, t, r⟩ := hx
    cases ho
    have hl := r.length
    refine .inr (.inl ⟨a, vs, rfl, .inl (.inl t), fun p hp => q _ _ (Grow.new hp) (ls_new hb hp ?_)⟩)
    unfold cutV cutL
    rw [hl]
    exact (r.drop _).take _
  | str z =>
    cases hx
    simp only [slD] at ho
    split at ho
    · rename_i hz
      cases ho
      exact .inr (.inr ⟨z, rfl, hz, q _ _ (Grow.refl H) (.str _)⟩)
    · cases ho
  | _ => cases ho
theorem m_sl {lo hi : Option Expr} {f : Dn} {gl gh : On} {p2 : Pos} (he : PEm X Wx e f) (hl : POm X Wx lo gl) (hh : POm X Wx hi gh) : PEm X Wx (.Subscript e (.Slice lo hi none p2) pos) (dSl f gl gh) := by
  refine (pe_slice sl_M he hl hh).mimp fun σ H Q ⟨ws, B0, s, e, h⟩ => ?_
  refine ⟨ws, B0, s, e, (runAt.bind h).mono fun ws1 s1 x H1 l1 e1 h1 v hv => ?_⟩
  refine ⟨ws1, B0, s1, e1, (runAt.bind h1).mono fun ws2 s2 i H2 l2 e2 h2 => ?_⟩
  refine ⟨ws2, B0, s2, e2, (runAt.bind h2).mono fun ws3 s3 j H3 l3 e3 h3 => ?_⟩
  obtain ⟨y, d, q1, q2, h3⟩ := opt_some_of h3
  exact so_sl e3.bad (e3.rs (ER.le (l2.trans l3) hv) q1) q2 fun v' H' g hd => runAt.grow g e3 h3 v' (.inr hd)

/-! ### built-ins by values -/
def rsl : S → List D → Option (List D)
  | _, [] => some []
  | s, d :: r => (rs s d).bind fun x => (rsl s r).map fun y => x :: y
inductive DWs (K : PySem.W.Frag) (ws : Wa) (B : Addr → Prop) (H : Hp) : List V → List D → Prop
  | nil : DWs K ws B H [] []
  | cons {v : V} {vs : List V} {d : D} {ds : List D} : DW K ws B H v d → DWs K ws B H vs ds → DWs K ws B H (v :: vs) (d :: ds)
theorem Env.rsl {K : PySem.W.Frag} {ws : Wa} {B0 : Addr → Prop} {s : S} {σ : L2.St} {H : Hp} (e : Env K ws B0 s σ H) : ∀ {vs : List V} {ds ds' : List D}, ERs K ws B0 s σ H vs ds → rsl s ds = some ds' → DWs K ws (Bad ws B0 s σ) H vs ds'
  | _, _, ds', .nil, h => by cases h; exact .nil
  | _, _, ds', .cons (a := v) (b := d) (l₁ := vs) (l₂ := ds) h1 hr, h => by
    unfold Pm.rsl at h
    cases q1 : Pm.rs s d with
    | none => rw [q1] at h; cases h
    | some x =>
      cases q2 : Pm.rsl s ds with
      | none => rw [q1, q2] at h; cases h
      | some y =>
        rw [q1, q2] at h
        cases h
        exact .cons (e.rs h1 q1) (Env.rsl e hr q2)
/-- a built-in function told by one on data -/
def CallS (K : PySem.W.Frag) (r : List V → Hp → VK → Prop) (fn : List D → Option D) : Prop := ∀ (ws : Wa) (B : Addr → Prop) (H : Hp) (xs : List V) (ds : List D) (d : D) (Q : VK), (∀ a, B a → H a ≠ none) → DWs K ws B H xs ds → fn ds = some d →
  (∀ v H', Grow H H' → DR K ws B H' v d → Q v H') → r xs H Q
def dCB (fn : List D → Option D) (g : An) : Dn := fun s => (g s).bind fun ds s1 => Res.opt ((rsl s1 ds).bind fn) s1
theorem dCB_go {K : PySem.W.Frag} {mg : Str → Option Value} {r : List V → Hp → VK → Prop} {fn : List D → Option D} {g : An} (hs : CallS K r fn) (σ : L2.St) (H : Hp) (Q : VK) (h : tE K mg Wx (dCB fn g) σ H Q) : tCB r (tA K mg Wx g) σ H Q := by
  obtain ⟨ws, B0, s, e, h⟩ := h
  refine ⟨ws, B0, s, e, (runAt.bind h).mono fun ws1 s1 ds H1 l1 e1 h1 vs hv => ?_⟩
  obtain ⟨y, d, q1, q2, h1⟩ := opt_some_of h1
  exact hs ws1 _ H1 vs y d Q e1.bad (e1.rsl hv q1) q2 fun v' H' g hd => runAt.grow g e1 h1 v' (.inr hd)
variable {es : List Expr} {x : Str} {p : Pos}
theorem m_callB {id : String} {r : List V → Hp → VK → Prop} {fn : List D → Option D} {g : An} (hc : CallR X (.builtin id) r) (hs : CallS X.K r fn) (hg : Gl X x) (hm : X.mg x = none) (hv : bootBuiltins x = some (.builtin id)) (ha : PAm X Wx (e :: es) g) (hn : x ≠ "__name__" := by decide) (hdb : (x == ("__debug__" : Str)) = false := by decide)
    (he : starEach (e :: es) X.env = (false, eval e X.env) :: starEach es X.env := by rfl) (hpl : (backTo pos (starEach es X.env)).any (·.1) = false := by rfl) : PEm X Wx (.Call (.Name x p) (e :: es) [] pos) (dCB fn g) :=
  (pe_callB hc hg hm hv ha hn hdb he hpl).mimp fun σ H Q h => dCB_go hs σ H Q h
theorem m_callTy {T : String} {r : List V → Hp → VK → Prop} {fn : List D → Option D} {g : An} (hc : CallR X (.type T) r) (hs : CallS X.K r fn) (hg : Gl X x) (hm : X.mg x = none) (hv : bootBuiltins x = some (.type T)) (ha : PAm X Wx (e :: es) g) (hn : x ≠ "__name__" := by decide) (hdb : (x == ("__debug__" : Str)) = false := by decide)
    (he : starEach (e :: es) X.env = (false, eval e X.env) :: starEach es X.env := by rfl) (hpl : (backTo pos (starEach es X.env)).any (·.1) = false := by rfl) : PEm X Wx (.Call (.Name x p) (e :: es) [] pos) (dCB fn g) :=
  (pe_callTy hc hg hm hv ha hn hdb he hpl).mimp fun σ H Q h => dCB_go hs σ H Q h
end

def intsOf : List D → Option (List Int)
  | [] => some []
  | .int i :: r => (intsOf r).map (i :: ·)
  | _ => none
@[simp] theorem intsOf_map : ∀ ns : List Int, intsOf (ns.map D.int) = some ns
  | [] => rfl
  | n :: r => by rw [List.map_cons, intsOf, intsOf_map r]; rfl
theorem of_intsOf : ∀ {ds : List D} {ns : List Int}, intsOf ds = some ns → ds = ns.map D.int
  | [], ns, h => by cases h; rfl
  | .int i :: r, ns, h => by
    rw [intsOf] at h
    cases q : intsOf r with
    | none => rw [q] at h; cases h
    | some m => rw [q] at h; cases h; rw [of_intsOf q]; rfl
  | .non :: _, _, h => by cases h
  | .bl _ :: _, _, h => by cases h
  | .str _ :: _, _, h => by cases h
  | .tup _ :: _, _, h => by cases h
  | .lst _ :: _, _, h => by cases h
  | .scr _ :: _, _, h => by cases h
  | .dk _ :: _, _, h => by cases h
  | .dt _ :: _, _, h => by cases h
  | .town :: _, _, h => by cases h
  | .own _ :: _, _, h => by cases h
def blsOf : List D → Option (List Bool)
  | [] => some []
  | .bl i :: r => (blsOf r).map (i :: ·)
  | _ => none
@[simp] theorem blsOf_map : ∀ ns : List Bool, blsOf (ns.map D.bl) = some ns
  | [] => rfl
  | n :: r => by rw [List.map_cons, blsOf, blsOf_map r]; rfl
theorem of_blsOf : ∀ {ds : List D} {ns : List Bool}, blsOf ds = some ns → ds = ns.map D.bl
  | [], ns, h => by cases h; rfl
  | .bl i :: r, ns, h => by
    rw [blsOf] at h
    cases q : blsOf r with
    | none => rw [q] at h; cases h
    | some m => rw [q] at h; cases h; rw [of_blsOf q]; rfl
  | .non :: _, _, h => by cases h
  | .int _ :: _, _, h => by cases h
  | .str _ :: _, _, h => by cases h
  | .tup _ :: _, _, h => by cases h
  | .lst _ :: _, _, h => by cases h
  | .scr _ :: _, _, h => by cases h
  | .dk _ :: _, _, h => by cases h
  | .dt _ :: _, _, h => by cases h
  | .town :: _, _, h => by cases h
  | .own _ :: _, _, h => by cases h

/-! ### len -/
def lenF : List D → Option D
  | [.str z] => if z.length ≤ sizeLine then some (.int z.length) else none
  | [.tup l] => some (.int l.length)
  | [.lst l] => some (.int l.length)
  | [.scr l] => some (.int l.length)
  | _ => none
section
variable {K : PySem.W.Frag} {ws : Wa} {B : Addr → Prop} {H : Hp}
theorem one_of {d : D} {xs : List V} (h : DWs K ws B H xs [d]) : ∃ v, xs = [v] ∧ DW K ws B H v d := by
  cases h with
  | cons h1 h2 => cases h2; exact ⟨_, rfl, h1⟩
theorem two_of {d e : D} {xs : List V} (h : DWs K ws B H xs [d, e]) : ∃ v u, xs = [v, u] ∧ DW K ws B H v d ∧ DW K ws B H u e := by
  cases h with
  | cons h1 h2 => obtain ⟨u, rfl, h3⟩ := one_of h2; exact ⟨_, u, rfl, h1, h3⟩
theorem three_of {d e f : D} {xs : List V} (h : DWs K ws B H xs [d, e, f]) : ∃ v u w, xs = [v, u, w] ∧ DW K ws B H v d ∧ DW K ws B H u e ∧ DW K ws B H w f := by
  cases h with
  | cons h1 h2 => obtain ⟨u, w, rfl, h3⟩ := two_of h2; exact ⟨_, u, w, rfl, h1, h3⟩
theorem cs_len : CallS K (fun xs H Q => ∃ x n, xs = [x] ∧ LenV K x H n ∧ Q (.int n) H) lenF := by
  intro ws B H xs ds d Q hb hx ho q
  unfold lenF at ho
  split at ho
  · rename_i z
    obtain ⟨v, rfl, hv⟩ := one_of hx
    split at ho
    · rename_i hz; cases ho; cases hv; exact ⟨_, _, rfl, ⟨hz, rfl⟩, q _ _ (Grow.refl H) (.int _)⟩
    · cases ho
  · obtain ⟨v, rfl, a, vs, rfl, t, r⟩ := one_of hx
    cases ho
    exact ⟨_, vs.length, rfl, .inr ⟨vs, t.sq, rfl⟩, by rw [r.length]; exact q _ _ (Grow.refl H) (.int _)⟩
  · obtain ⟨v, rfl, a, vs, rfl, t, r⟩ := one_of hx
    cases ho
    exact ⟨_, vs.length, rfl, .inl ⟨vs, .inl (.inl t), rfl⟩, by rw [r.length]; exact q _ _ (Grow.refl H) (.int _)⟩
  · rename_i l
    obtain ⟨v, rfl, a, rfl, t⟩ := one_of hx
    cases ho
    exact ⟨_, l.length, rfl, .inl ⟨_, t, by rw [List.length_map]⟩, q _ _ (Grow.refl H) (.int _)⟩
  · cases ho

/-! ### abs, int -/
def absF : List D → Option D
  | [.int i] => some (.int (if i < 0 then -i else i))
  | _ => none
theorem cs_abs : CallS K (fun xs H Q => ∃ i, xs = [.int i] ∧ Q (.int (if i < 0 then -i else i)) H) absF := by
  intro ws B H xs ds d Q hb hx ho q
  unfold absF at ho
  split at ho
  · obtain ⟨v, rfl, hv⟩ := one_of hx
    cases ho; cases hv
    exact ⟨_, rfl, q _ _ (Grow.refl H) (.int _)⟩
  · cases ho
def intF : List D → Option D
  | [.int i] => some (.int i)
  | [.bl b] => some (.int (if b then 1 else 0))
  | _ => none
theorem cs_int : CallS K (fun xs H Q => (∃ i, xs = [.int i] ∧ Q (.int i) H) ∨ ∃ k, xs = [.bl k] ∧ Q (.int (if k then 1 else 0)) H) intF := by
  intro ws B H xs ds d Q hb hx ho q
  unfold intF at ho
  split at ho
  · obtain ⟨v, rfl, hv⟩ := one_of hx
    cases ho; cases hv
    exact .inl ⟨_, rfl, q _ _ (Grow.refl H) (.int _)⟩
  · obtain ⟨v, rfl, hv⟩ := one_of hx
    cases ho; cases hv
    exact .inr ⟨_, rfl, q _ _ (Grow.refl H) (.int _)⟩
  · cases ho

/-! ### sum, all, any of a list -/
def sumF : List D → Option D
  | [.lst l] => (intsOf l).map fun ns => .int ns.sum
  | _ => none
theorem cs_sum : CallS K (rSum K) sumF := by
  intro ws B H xs ds d Q hb hx ho q
  unfold sumF at ho
  split at ho
  · rename_i l
    obtain ⟨v, rfl, a, vs, rfl, t, r⟩ := one_of hx
    cases e : intsOf l with
    | none => rw [e] at ho; cases ho
    | some ns =>
      rw [e] at ho; cases ho
      rw [of_intsOf e] at r
      have ev := r.of_ints
      subst ev
      exact ⟨a, ns, rfl, .inl (.inl t), q _ _ (Grow.refl H) (.int _)⟩
  · cases ho
def allF : List D → Option D
  | [.lst l] => (blsOf l).map fun ns => .bl (ns.all id)
  | _ => none
theorem cs_all : CallS K (rAll K) allF := by
  intro ws B H xs ds d Q hb hx ho q
  unfold allF at ho
  split at ho
  · rename_i l
    obtain ⟨v, rfl, a, vs, rfl, t, r⟩ := one_of hx
    cases e : blsOf l with
    | none => rw [e] at ho; cases ho
    | some ns =>
      rw [e] at ho; cases ho
      rw [of_blsOf e] at r
      have ev := r.of_bls
      subst ev
      exact ⟨a, ns, rfl, .inl (.inl t), q _ _ (Grow.refl H) (.bl _)⟩
  · cases ho
def anyF : List D → Option D
  | [.lst l] => (blsOf l).map fun ns => .bl (ns.any id)
  | _ => none
theorem cs_any : CallS K (rAny K) anyF := by
  intro ws B H xs ds d Q hb hx ho q
  unfold anyF at ho
  split at ho
  · rename_i l
    obtain ⟨v, rfl, a, vs, rfl, t, r⟩ := one_of hx
    cases e : blsOf l with
    | none => rw [e] at ho; cases ho
    | some ns =>
      rw [e] at ho; cases ho
      rw [of_blsOf e] at r
      have ev := r.of_bls
      subst ev
      exact ⟨a, ns, rfl, .inl (.inl t), q _ _ (Grow.refl H) (.bl _)⟩
  · cases ho

/-! ### tuple(x), list(x) -/
def tupF : List D → Option D
  | [.lst l] => some (.tup l)
  | [.tup l] => some (.tup l)
  | _ => none
theorem cs_tup : CallS K (fun xs H Q => ∃ p ys, xs = [.ref p] ∧ ((SqL K H p ys ∧ ∀ l, H l = none → Q (.ref l) (upd H l (.tup ys))) ∨ (SqT K H p ys ∧ Q (.ref p) H))) tupF := by
  intro ws B H xs ds d Q hb hx ho q
  unfold tupF at ho
  split at ho
  · obtain ⟨v, rfl, a, vs, rfl, t, r⟩ := one_of hx
    cases ho
    exact ⟨a, vs, rfl, .inl ⟨.inl (.inl t), fun p hp => q _ _ (Grow.new hp) (tp_new hb hp r)⟩⟩
  · obtain ⟨v, rfl, a, vs, rfl, t, r⟩ := one_of hx
    cases ho
    exact ⟨a, vs, rfl, .inr ⟨t.sq, q _ _ (Grow.refl H) (.tup t r)⟩⟩
  · cases ho
def lstF : List D → Option D
  | [.lst l] => some (.lst l)
  | [.tup l] => some (.lst l)
  | _ => none
theorem cs_lst : CallS K (fun xs H Q => ∃ p ys, xs = [.ref p] ∧ (SqL K H p ys ∨ SqT K H p ys) ∧ ∀ l, H l = none → Q (.ref l) (upd H l (.lst ys))) lstF := by
  intro ws B H xs ds d Q hb hx ho q
  unfold lstF at ho
  split at ho
  · obtain ⟨v, rfl, a, vs, rfl, t, r⟩ := one_of hx
    cases ho
    exact ⟨a, vs, rfl, .inl (.inl (.inl t)), fun p hp => q _ _ (Grow.new hp) (ls_new hb hp r)⟩
  · obtain ⟨v, rfl, a, vs, rfl, t, r⟩ := one_of hx
    cases ho
    exact ⟨a, vs, rfl, .inr t.sq, fun p hp => q _ _ (Grow.new hp) (ls_new hb hp r)⟩
  · cases ho

/-! ### max, min -/
def bigF (f : Int → Int → Int) : List D → Option D
  | [.int i, .int j] => some (.int (f i j))
  | [.int i, .int j, .int k] => some (.int (f (f i j) k))
  | [.lst l] => (intsOf l).bind fun ns => match ns with | [] => none | n :: r => some (.int (r.foldl f n))
  | [.tup l] => (intsOf l).bind fun ns => match ns with | [] => none | n :: r => some (.int (r.foldl f n))
  | _ => none
def maxF : List D → Option D := bigF max
def minF : List D → Option D := bigF min
def rBig (K : PySem.W.Frag) (f : Int → Int → Int) : List V → Hp → VK → Prop := fun xs H Q =>
  (∃ i j, xs = [.int i, .int j] ∧ Q (.int (f i j)) H) ∨ (∃ i j k, xs = [.int i, .int j, .int k] ∧ Q (.int (f (f i j) k)) H) ∨
  (∃ (a : Addr) (n : Int) (r : List Int), xs = [.ref a] ∧ (SqL K H a ((n :: r).map V.int) ∨ SqT K H a ((n :: r).map V.int)) ∧ Q (.int (r.foldl f n)) H)
theorem cs_big {f : Int → Int → Int} : CallS K (rBig K f) (bigF f) := by
  intro ws B H xs ds d Q hb hx ho q
  unfold bigF at ho
  split at ho
  · obtain ⟨v, u, rfl, hv, hu⟩ := two_of hx
    cases ho; cases hv; cases hu
    exact .inl ⟨_, _, rfl, q _ _ (Grow.refl H) (.int _)⟩
  · obtain ⟨v, u, w, rfl, hv, hu, hw⟩ := three_of hx
    cases ho; cases hv; cases hu; cases hw
    exact .inr (.inl ⟨_, _, _, rfl, q _ _ (Grow.refl H) (.int _)⟩)
  · rename_i l
    obtain ⟨v, rfl, a, vs, rfl, t, r⟩ := one_of hx
    cases e : intsOf l with
    | none => rw [e] at ho; cases ho
    | some ns =>
      rw [e] at ho
      cases ns with
      | nil => cases ho
      | cons n ns =>
        cases ho
        rw [of_intsOf e] at r
        have ev := r.of_ints
        subst ev
        exact .inr (.inr ⟨a, n, ns, rfl, .inl (.inl (.inl t)), q _ _ (Grow.refl H) (.int _)⟩)
  · rename_i l
    obtain ⟨v, rfl, a, vs, rfl, t, r⟩ := one_of hx
    cases e : intsOf l with
    | none => rw [e] at ho; cases ho
    | some ns =>
      rw [e] at ho
      cases ns with
      | nil => cases ho
      | cons n ns =>
        cases ho
        rw [of_intsOf e] at r
        have ev := r.of_ints
        subst ev
        exact .inr (.inr ⟨a, n, ns, rfl, .inr t.sq, q _ _ (Grow.refl H) (.int _)⟩)
  · cases ho
theorem foldl_max_mem : ∀ (r : List Int) (n : Int), r.foldl max n ∈ n :: r ∧ ∀ y ∈ n :: r, y ≤ r.foldl max n
  | [], n => ⟨by simp, by simp⟩
  | m :: r, n => by
    obtain ⟨h1, h2⟩ := foldl_max_mem r (max n m)
    rw [List.foldl_cons]
    refine ⟨?_, fun y hy => ?_⟩
    · rcases List.mem_cons.mp h1 with e | e
      · rw [e]; rcases Int.le_total n m with z | z
        · rw [Int.max_eq_right z]; simp
        · rw [Int.max_eq_left z]; simp
      · exact List.mem_cons_of_mem _ (List.mem_cons_of_mem _ e)
    · have h3 := h2 (max n m) List.mem_cons_self
      rcases List.mem_cons.mp hy with e | hy
      · omega
      · rcases List.mem_cons.mp hy with e | hy
        · omega
        · exact h2 y (List.mem_cons_of_mem _ hy)
theorem foldl_min_mem : ∀ (r : List Int) (n : Int), r.foldl min n ∈ n :: r ∧ ∀ y ∈ n :: r, r.foldl min n ≤ y
  | [], n => ⟨by simp, by simp⟩
  | m :: r, n => by
    obtain ⟨h1, h2⟩ := foldl_min_mem r (min n m)
    rw [List.foldl_cons]
    refine ⟨?_, fun y hy => ?_⟩
    · rcases List.mem_cons.mp h1 with e | e
      · rw [e]; rcases Int.le_total n m with z | z
        · rw [Int.min_eq_left z]; simp
        · rw [Int.min_eq_right z]; simp
      · exact List.mem_cons_of_mem _ (List.mem_cons_of_mem _ e)
    · have h3 := h2 (min n m) List.mem_cons_self
      rcases List.mem_cons.mp hy with e | hy
      · omega
      · rcases List.mem_cons.mp hy with e | hy
        · omega
        · exact h2 y (List.mem_cons_of_mem _ hy)
end
theorem maxOf_eq (n : Int) : ∀ r : List Int, r.foldl max n = PySem.W.maxOf n r := fun r => by
  unfold PySem.W.maxOf
  congr 1
  funext a y
  show max a y = if decide (a < y) = true then y else a
  by_cases h : a < y
  · rw [decide_eq_true h, if_pos rfl, Int.max_eq_right (by omega)]
  · rw [decide_eq_false h, if_neg Bool.false_ne_true, Int.max_eq_left (by omega)]
theorem minOf_eq (n : Int) : ∀ r : List Int, r.foldl min n = PySem.W.minOf n r := fun r => by
  unfold PySem.W.minOf
  congr 1
  funext a y
  show min a y = if decide (y < a) = true then y else a
  by_cases h : y < a
  · rw [decide_eq_true h, if_pos rfl, Int.min_eq_right (by omega)]
  · rw [decide_eq_false h, if_neg Bool.false_ne_true, Int.min_eq_left (by omega)]
section
variable {X : Cx}
theorem call_maxM (hc : X.calm = true) (hu : X.A.units + 64 < cLine) : CallR X (.builtin "max") (rBig X.K max) := by
  intro pins s σ H xs us Q I r h
  rcases h with ⟨i, j, rfl, q⟩ | ⟨i, j, k, rfl, q⟩ | ⟨a, n, rr, rfl, hs, q⟩
  · refine call_max2 hc pins s σ H _ us Q I r ⟨i, j, rfl, ?_⟩
    have : (if j > i then j else i) = max i j := by split <;> omega
    rw [this]; exact q
  · refine call_max3Nu hc pins s σ H _ us Q I r ⟨.int i, .int j, .int k, .int (max (max i j) k), rfl, ?_, q⟩
    have e1 : nuMax2 (.int i) (.int j) = some (.int (max i j)) := by
      show (some (decide (i < j))).map (fun c => if c = true then V.int j else V.int i) = _
      by_cases h : i < j
      · rw [decide_eq_true h, Int.max_eq_right (by omega)]; rfl
      · rw [decide_eq_false h, Int.max_eq_left (by omega)]; rfl
    have e2 : nuMax2 (.int (max i j)) (.int k) = some (.int (max (max i j) k)) := by
      show (some (decide (max i j < k))).map (fun c => if c = true then V.int k else V.int (max i j)) = _
      by_cases h : max i j < k
      · rw [decide_eq_true h, Int.max_eq_right (a := max i j) (by omega)]; rfl
      · rw [decide_eq_false h, Int.max_eq_left (a := max i j) (by omega)]; rfl
    unfold nuMax3
    rw [e1]
    exact e2
  · rcases hs with hs | hs
    · refine cr_max hc pins s σ H _ us Q I r ⟨a, n :: rr, rfl, hs, by simp, fun m h1 h2 => ?_⟩
      obtain ⟨g1, g2⟩ := foldl_max_mem rr n
      have : m = rr.foldl max n := Int.le_antisymm (g2 m h1) (h2 _ g1)
      rw [this]; exact q
    · obtain ⟨its, rv, ht, _⟩ := I.tuple hs
      rw [Vals.ref1 r]
      refine PySem.W.max_tuple_datum (α := Int) (x := n) (xs := rr) (I.ok.hd hc) (show s.heap.IsTuple a its.toArray from ht) (PySem.W.HoldAll.of_ints (by simpa using rv.ints)) (by show X.A.units + 1 + 0 < cLine; omega) fun i v h' tk hv hh hk => ?_
      obtain ⟨tk', rfl⟩ := PySem.W.int_of_holds hh
      exact ⟨.int _, H, I.kept hk, ⟨_, rfl⟩, by rw [← maxOf_eq]; exact q⟩
theorem call_minM (hc : X.calm = true) (hu : X.A.units + 64 < cLine) : CallR X (.builtin "min") (rBig X.K min) := by
  intro pins s σ H xs us Q I r h
  rcases h with ⟨i, j, rfl, q⟩ | ⟨i, j, k, rfl, q⟩ | ⟨a, n, rr, rfl, hs, q⟩
  · refine call_min2 hc pins s σ H _ us Q I r ⟨i, j, rfl, ?_⟩
    have : (if j < i then j else i) = min i j := by split <;> omega
    rw [this]; exact q
  · refine call_min3Nu hc pins s σ H _ us Q I r ⟨.int i, .int j, .int k, .int (min (min i j) k), rfl, ?_, q⟩
    have e1 : nuMin2 (.int i) (.int j) = some (.int (min i j)) := by
      show (some (decide (j < i))).map (fun c => if c = true then V.int j else V.int i) = _
      by_cases h : j < i
      · rw [decide_eq_true h, Int.min_eq_right (by omega)]; rfl
      · rw [decide_eq_false h, Int.min_eq_left (by omega)]; rfl
    have e2 : nuMin2 (.int (min i j)) (.int k) = some (.int (min (min i j) k)) := by
      show (some (decide (k < min i j))).map (fun c => if c = true then V.int k else V.int (min i j)) = _
      by_cases h : k < min i j
      · rw [decide_eq_true h, Int.min_eq_right (a := min i j) (by omega)]; rfl
      · rw [decide_eq_false h, Int.min_eq_left (a := min i j) (by omega)]; rfl
    unfold nuMin3
    rw [e1]
    exact e2
  · rcases hs with hs | hs
    · refine cr_min hc pins s σ H _ us Q I r ⟨a, n :: rr, rfl, hs, by simp, fun m h1 h2 => ?_⟩
      obtain ⟨g1, g2⟩ := foldl_min_mem rr n
      have : m = rr.foldl min n := Int.le_antisymm (h2 _ g1) (g2 m h1)
      rw [this]; exact q
    · obtain ⟨its, rv, ht, _⟩ := I.tuple hs
      rw [Vals.ref1 r]
      refine PySem.W.min_tuple_datum (α := Int) (x := n) (xs := rr) (I.ok.hd hc) (show s.heap.IsTuple a its.toArray from ht) (PySem.W.HoldAll.of_ints (by simpa using rv.ints)) (by show X.A.units + 1 + 0 < cLine; omega) fun i v h' tk hv hh hk => ?_
      obtain ⟨tk', rfl⟩ := PySem.W.int_of_holds hh
      exact ⟨.int _, H, I.kept hk, ⟨_, rfl⟩, by rw [← minOf_eq]; exact q⟩
end
end Pm
namespace Pm
open PySem L2

/-! ### isinstance -/
def tyD : D → Option String
  | .non => some "NoneType"
  | .bl _ => some "bool"
  | .int _ => some "int"
  | .str _ => some "str"
  | .tup _ => some "tuple"
  | .lst _ => some "list"
  | .scr _ => some "list"
  | .dk _ => some "dict"
  | .dt _ => some "dict"
  | _ => none
def isiD (T : String) (d : D) : Option Bool := (tyD d).bind fun a => kitB a T
theorem k_ii : kitB "int" "int" = some true := by decide +kernel
theorem k_ib : kitB "int" "bool" = some false := by decide +kernel
theorem k_it : kitB "int" "tuple" = some false := by decide +kernel
theorem k_is : kitB "int" "str" = some false := by decide +kernel
theorem k_bi : kitB "bool" "int" = some true := by decide +kernel
theorem k_bb : kitB "bool" "bool" = some true := by decide +kernel
theorem k_bt : kitB "bool" "tuple" = some false := by decide +kernel
theorem k_bs : kitB "bool" "str" = some false := by decide +kernel
theorem k_ti : kitB "tuple" "int" = some false := by decide +kernel
theorem k_tb : kitB "tuple" "bool" = some false := by decide +kernel
theorem k_tt : kitB "tuple" "tuple" = some true := by decide +kernel
theorem k_ts : kitB "tuple" "str" = some false := by decide +kernel
theorem k_si : kitB "str" "int" = some false := by decide +kernel
theorem k_sb : kitB "str" "bool" = some false := by decide +kernel
theorem k_st : kitB "str" "tuple" = some false := by decide +kernel
theorem k_ss : kitB "str" "str" = some true := by decide +kernel
theorem k_ni : kitB "NoneType" "int" = some false := by decide +kernel
theorem k_nb : kitB "NoneType" "bool" = some false := by decide +kernel
theorem k_nt : kitB "NoneType" "tuple" = some false := by decide +kernel
theorem k_ns : kitB "NoneType" "str" = some false := by decide +kernel
theorem k_li : kitB "list" "int" = some false := by decide +kernel
theorem k_lb : kitB "list" "bool" = some false := by decide +kernel
theorem k_lt : kitB "list" "tuple" = some false := by decide +kernel
theorem k_ls : kitB "list" "str" = some false := by decide +kernel
def isiInt : D → Bool | .int _ => true | .bl _ => true | _ => false
def isiBool : D → Bool | .bl _ => true | _ => false
def isiTup : D → Bool | .tup _ => true | _ => false
def isiStr : D → Bool | .str _ => true | _ => false
/-- none, truth, number, text, tuple, list -/
def plainD : D → Bool | .non => true | .bl _ => true | .int _ => true | .str _ => true | .tup _ => true | .lst _ => true | .scr _ => true | _ => false
theorem isi_int {d : D} (h : plainD d = true) : isiD "int" d = some (isiInt d) := by cases d <;> first | exact k_ii | exact k_bi | exact k_ti | exact k_si | exact k_ni | exact k_li | cases h
theorem isi_bool {d : D} (h : plainD d = true) : isiD "bool" d = some (isiBool d) := by cases d <;> first | exact k_ib | exact k_bb | exact k_tb | exact k_sb | exact k_nb | exact k_lb | cases h
theorem isi_tup {d : D} (h : plainD d = true) : isiD "tuple" d = some (isiTup d) := by cases d <;> first | exact k_it | exact k_bt | exact k_tt | exact k_st | exact k_nt | exact k_lt | cases h
theorem isi_str {d : D} (h : plainD d = true) : isiD "str" d = some (isiStr d) := by cases d <;> first | exact k_is | exact k_bs | exact k_ts | exact k_ss | exact k_ns | exact k_ls | cases h

section
variable {K : PySem.W.Frag} {ws : Wa} {B : Addr → Prop} {H : Hp}
theorem ty_of {v : V} {d : D} {a : String} (h : DW K ws B H v d) (ht : tyD d = some a) : TyX K H v (.type a) := by
  cases d with
  | non => cases h; cases ht; exact .base .non
  | bl => cases h; cases ht; exact .base (.bl _)
  | int => cases h; cases ht; exact .base (.int _)
  | str => cases h; cases ht; exact .base (.str _)
  | tup l =>
    obtain ⟨a, vs, rfl, t, r⟩ := h
    cases ht
    rcases t with ⟨_, t | ⟨o, t⟩⟩ | ⟨o, its, n, h1, h2, _⟩
    · exact .base (.tup t)
    · exact .fTuple t
    · exact .kTuple h1 h2
  | lst l =>
    obtain ⟨a, vs, rfl, t, r⟩ := h
    cases ht
    exact .base (.lst t)
  | scr l =>
    obtain ⟨a, rfl, t⟩ := h
    cases ht
    rcases t with (t | ⟨o, t⟩) | ⟨o, its, n, h1, h2, _⟩
    · exact .base (.lst t)
    · exact .base (.frz t)
    · exact .kList h1 h2
  | dk l =>
    obtain ⟨a, kvs, rfl, t, _⟩ := h
    cases ht
    exact .base (.dK t)
  | dt l =>
    obtain ⟨a, kvs, rfl, t, _⟩ := h
    cases ht
    exact .base (.dT t)
  | town => cases ht
  | own => cases ht
end
def dIsi (T : String) (f : Dn) : Dn := fun s => (f s).bind fun d s1 => Res.opt ((rs s1 d).bind fun x => (isiD T x).map D.bl) s1
section
variable {X : Cx} {Wx : WX} {a : Expr} {pos p p' : Pos}
theorem m_isi {T : String} {x : Str} {f : Dn} (ha : PEm X Wx a f) (hm : X.mg "isinstance" = none) (hT : PE X (.Name x p') (tC (.ty T))) (hg : Gl X "isinstance" := by rfl)
    (he : starEach (a :: [.Name x p']) X.env = (false, eval a X.env) :: starEach [.Name x p'] X.env := by rfl) (hpl : (backTo pos (starEach [.Name x p'] X.env)).any (·.1) = false := by rfl)
    (hs : starEach (.Name x p' :: []) X.env = (false, eval (.Name x p') X.env) :: starEach [] X.env := by rfl) : PEm X Wx (.Call (.Name "isinstance" p) [a, .Name x p'] [] pos) (dIsi T f) := by
  refine (pe_callB call_isi hg hm (by decide +kernel) (pa_cons ha (pa_cons hT pa_nil hs) he) (by decide) (by decide) he hpl).mimp fun σ H Q ⟨ws, B0, s, e, h⟩ => ?_
  refine ⟨ws, B0, s, e, (runAt.bind h).mono fun ws1 s1 d H1 l1 e1 h1 v hv => ?_⟩
  obtain ⟨y, d', q1, q2, h1⟩ := opt_some_of h1
  cases q3 : tyD y with
  | none => simp [isiD, q3] at q2
  | some t =>
    cases q4 : kitB t T with
    | none => simp [isiD, q3, q4] at q2
    | some b =>
      have e2 : d' = .bl b := by simp [isiD, q3, q4] at q2; exact q2.symm
      subst e2
      exact ⟨v, .ty T, .type t, .type T, b, rfl, .ty T, ty_of (e1.rs hv q1) q3, kit_ty q4, runAt.here e1 h1 _ (.inr (.bl b))⟩
end

/-! ### statements -/
section
variable (K : PySem.W.Frag) (mg : Str → Option Value) (Wx : WX) (ws : Wa) (B0 : Addr → Prop) (s : S) (σ : L2.St) (H : Hp)
def outS (D0 : Ends) (σ' : L2.St) (ws' : Wa) (s' : S) (H' : Hp) : Fl → Prop
  | .next => D0.nx σ' H'
  | .brk => D0.bk σ' H'
  | .cont => D0.ct σ' H'
  | .ret d => ∀ v, DR K ws' (fun a => ws'.has a ∨ B0 a) H' v d → D0.rt v H'
def stAt (r : Res Fl) (D0 : Ends) : Prop := match r with
  | .ok fl s' => ∀ σ' ws' H', Le ws (Own s σ) H ws' (Own s' σ') H' → Env K ws' B0 s' σ' H' → outS K B0 D0 σ' ws' s' H' fl
  | .ex c s' => ∀ σ' ws' H' C, mg c = some (.ref C) → Le ws (Own s σ) H ws' (Own s' σ') H' → Env K ws' B0 s' σ' H' → Wx (.ref C) none σ' H'
  | .bad => False
end
def tS (K : PySem.W.Frag) (mg : Str → Option Value) (Wx : WX) (b : Sn) : TS := fun D0 σ H => ∃ ws B0 s, Env K ws B0 s σ H ∧ stAt K mg Wx ws B0 s σ H (b s) D0
abbrev PSm (X : Cx) (Wx : WX) (st : Stmt) (b : Sn) : Prop := PS X st (tS X.K X.mg Wx b)
abbrev PSsm (X : Cx) (Wx : WX) (st : List Stmt) (b : Sn) : Prop := PSs X st (tS X.K X.mg Wx b)
section
variable {K : PySem.W.Frag} {mg : Str → Option Value} {Wx : WX} {ws ws1 : Wa} {B0 : Addr → Prop} {s s1 : S} {σ σ1 : L2.St} {H H1 : Hp} {r : Res Fl} {D0 D1 : Ends}
theorem stAt.le (l : Le ws (Own s σ) H ws1 (Own s1 σ1) H1) (h : stAt K mg Wx ws B0 s σ H r D0) : stAt K mg Wx ws1 B0 s1 σ1 H1 r D0 := by
  cases r with
  | ok a s' => exact fun σ' ws' H' l' e => h σ' ws' H' (l.trans l') e
  | ex c s' => exact fun σ' ws' H' C hc l' e => h σ' ws' H' C hc (l.trans l') e
  | bad => exact h
theorem stAt.here {fl : Fl} (e : Env K ws B0 s σ H) (h : stAt K mg Wx ws B0 s σ H (.ok fl s) D0) : outS K B0 D0 σ ws s H fl := h σ ws H (Le.refl _ _ _) e
/-- an expression, then a statement's outcome -/
theorem stAt.bind {α : Type} {r : Res α} {g : α → S → Res Fl} (h : stAt K mg Wx ws B0 s σ H (r.bind g) D0) : runAt K mg Wx ws B0 s σ H r (fun ws' s' a H' => stAt K mg Wx ws' B0 s' σ H' (g a s') D0) := by
  cases r with
  | ok a s1 => exact fun ws1 H1 l1 e1 => stAt.le l1 h
  | ex c s' => exact fun ws' H' C hc l e => h σ ws' H' C hc l e
  | bad => exact h
theorem stAt.fz {v : V} {d : D} {g : D → S → Res Fl} (e : Env K ws B0 s σ H) (hv : ER K ws B0 s σ H v d) (h : stAt K mg Wx ws B0 s σ H ((Pm.fz d s).bind g) D0) :
    ∃ d' s', Le ws (Own s σ) H ws (Own s' σ) H ∧ Env K ws B0 s' σ H ∧ DR K ws (Bad ws B0 s' σ) H v d' ∧ stAt K mg Wx ws B0 s' σ H (g d' s') D0 := by
  cases q : Pm.fz d s with
  | bad => rw [q] at h; exact h.elim
  | ex c s' => exact (fz_noex q).elim
  | ok d' s' =>
    rw [q] at h
    obtain ⟨l, e', r⟩ := fz_ok e hv q
    exact ⟨d', s', l, e', r, stAt.le l h⟩
theorem stAt.fzs {vs : List V} {ds : List D} {g : List D → S → Res Fl} (e : Env K ws B0 s σ H) (hv : ERs K ws B0 s σ H vs ds) (h : stAt K mg Wx ws B0 s σ H ((Pm.fzs ds s).bind g) D0) :
    ∃ ds' s', Le ws (Own s σ) H ws (Own s' σ) H ∧ Env K ws B0 s' σ H ∧ DRs K ws (Bad ws B0 s' σ) H vs ds' ∧ stAt K mg Wx ws B0 s' σ H (g ds' s') D0 := by
  cases q : Pm.fzs ds s with
  | bad => rw [q] at h; exact h.elim
  | ex c s' => exact (fzs_noex q).elim
  | ok ds' s' =>
    rw [q] at h
    obtain ⟨l, e', r⟩ := fzs_ok e hv q
    exact ⟨ds', s', l, e', r, stAt.le l h⟩
end
def sNext : Sn := fun s => .ok .next s
def sBrk : Sn := fun s => .ok .brk s
def sCont : Sn := fun s => .ok .cont s
def sSeq (a b : Sn) : Sn := fun s => (a s).bind fun fl s1 => match fl with
  | .next => b s1
  | fl => .ok fl s1
def sIf (c : Bn) (a b : Sn) : Sn := fun s => (c s).bind fun k s1 => if k = true then a s1 else b s1
def sRet (f : Dn) : Sn := fun s => (f s).bind fun d s1 => (fz d s1).bind fun d' s2 => .ok (.ret d') s2
def sDrop (f : Dn) : Sn := fun s => (f s).bind fun _ s1 => .ok .next s1
def put (i : Nat) (x : Sl) (s : S) : S := { s with sl := s.sl.set i x }
@[simp] theorem put_mk (i : Nat) (x : Sl) (l : List Sl) (w : W) : put i x ⟨l, w⟩ = ⟨l.set i x, w⟩ := rfl
def sSet (i : Nat) (f : Dn) : Sn := fun s => (f s).bind fun d s1 => (fz d s1).bind fun d' s2 => .ok .next (put i (.va d') s2)
section
variable {X : Cx} {Wx : WX} {st : Stmt} {rest : List Stmt} {e c : Expr} {pos : Pos} {b1 b2 : Sn}
theorem ms_nil : PSsm X Wx [] sNext := pss_nil.mimp fun D0 σ H ⟨ws, B0, s, e, h⟩ => stAt.here e h
theorem ms_cons (h1 : PSm X Wx st b1) (h2 : PSsm X Wx rest b2) : PSsm X Wx (st :: rest) (sSeq b1 b2) := by
  refine (pss_cons h1 h2).mimp fun D0 σ H ⟨ws, B0, s, e, h⟩ => ?_
  refine ⟨ws, B0, s, e, ?_⟩
  unfold sSeq at h
  cases q : b1 s with
  | bad => rw [q] at h; exact h.elim
  | ex c s1 => rw [q] at h; exact h
  | ok fl s1 =>
    rw [q] at h
    intro σ1 ws1 H1 l1 e1
    cases fl with
    | next => exact ⟨ws1, B0, s1, e1, stAt.le l1 h⟩
    | brk => exact h σ1 ws1 H1 l1 e1
    | cont => exact h σ1 ws1 H1 l1 e1
    | ret d => exact h σ1 ws1 H1 l1 e1
theorem ms_one (h1 : PSm X Wx st b1) : PSsm X Wx [st] b1 := pss_one h1
theorem ms_pass : PSm X Wx (.Pass pos) sNext := ps_pass.mimp fun D0 σ H ⟨ws, B0, s, e, h⟩ => stAt.here e h
theorem ms_break : PSm X Wx (.Break pos) sBrk := ps_break.mimp fun D0 σ H ⟨ws, B0, s, e, h⟩ => stAt.here e h
theorem ms_if {cf : Bn} {a b : List Stmt} (hc : PTm X Wx c cf) (ha : PSsm X Wx a b1) (hb : PSsm X Wx b b2) : PSm X Wx (.If c a b pos) (sIf cf b1 b2) := by
  refine (ps_if hc ha hb).mimp fun D0 σ H ⟨ws, B0, s, e, h⟩ => ?_
  refine ⟨ws, B0, s, e, (stAt.bind h).mono fun ws1 s1 k H1 l1 e1 h1 => ?_⟩
  cases k with
  | true => exact ⟨ws1, B0, s1, e1, h1⟩
  | false => exact ⟨ws1, B0, s1, e1, h1⟩
theorem DR.ret {K : PySem.W.Frag} {ws : Wa} {B0 : Addr → Prop} {s : S} {σ : L2.St} {H : Hp} {v : V} {d : D} (h : DR K ws (Bad ws B0 s σ) H v d) : DR K ws (fun a => ws.has a ∨ B0 a) H v d :=
  h.keep ws.le_refl (fun _ _ e _ => e) fun a z => .inl (z.imp id fun q => .inl q)
theorem ms_ret {f : Dn} (he : PEm X Wx e f) : PSm X Wx (.Return (some e) pos) (sRet f) := by
  refine (ps_ret he).mimp fun D0 σ H ⟨ws, B0, s, e, h⟩ => ?_
  refine ⟨ws, B0, s, e, (stAt.bind h).mono fun ws1 s1 d H1 l1 e1 h1 v hv => ?_⟩
  obtain ⟨d', s2, l2, e2, r2, h2⟩ := stAt.fz e1 hv h1
  exact stAt.here e2 h2 v r2.ret
theorem ms_expr {f : Dn} (he : PEm X Wx e f) (hs : swapsWith e none pos.line X.env = pure false := by rfl) : PSm X Wx (.Expr e pos) (sDrop f) := by
  refine (ps_expr he hs).mimp fun D0 σ H ⟨ws, B0, s, e, h⟩ => ?_
  exact ⟨ws, B0, s, e, (stAt.bind h).mono fun ws1 s1 d H1 l1 e1 h1 v hv => stAt.here e1 h1⟩
end
section
variable {K : PySem.W.Frag} {ws : Wa} {B0 : Addr → Prop} {s : S} {σ : L2.St} {H : Hp} {v : V} {d : D} {i : Nat}
theorem set_len {s : S} {x : Sl} : (put i x s).sl.length = s.sl.length := by simp [put]
/-- a value is stored in slot i -/
theorem Env.put (e : Env K ws B0 s σ H) (hv : DR K ws (Bad ws B0 s σ) H v d) : Le ws (Own s σ) H ws (Own (put i (.va d) s) (σ.set i (some v))) H ∧ Env K ws B0 (Pm.put i (.va d) s) (σ.set i (some v)) H := by
  have hO : ∀ a, Own (Pm.put i (.va d) s) (σ.set i (some v)) a → Own s σ a := fun a ⟨j, dj, h1, h2⟩ => by
    rcases get_set h1 with ⟨_, z, _⟩ | ⟨n, h1⟩
    · cases z
    · rw [List.getElem?_set_ne (Ne.symm n)] at h2
      exact ⟨j, dj, h1, h2⟩
  have l : Le ws (Own s σ) H ws (Own (Pm.put i (.va d) s) (σ.set i (some v))) H := ⟨ws.le_refl, fun _ h => .inl h, fun a h => .inl (hO a h), fun _ _ h _ _ => h, fun _ h => h⟩
  refine ⟨l, ⟨?_, e.wr, e.wd, e.dom, fun j dj hj => ?_, fun j dj hj => ?_, fun j k dj dk a hj hk ha hb => ?_⟩⟩
  · rw [set_len, List.length_set]; exact e.len
  · rcases get_set hj with ⟨rfl, z, hl⟩ | ⟨n, hj⟩
    · cases z
      exact ⟨v, by rw [List.getElem?_set_self (by rw [← e.len]; exact hl)], hv.le l⟩
    · obtain ⟨u, h1, h2⟩ := e.va j dj hj
      exact ⟨u, by rw [List.getElem?_set_ne (Ne.symm n)]; exact h1, h2.le l⟩
  · rcases get_set hj with ⟨rfl, z, hl⟩ | ⟨n, hj⟩
    · cases z
    · obtain ⟨a, h1, h2, h3⟩ := e.ow j dj hj
      refine ⟨a, by rw [List.getElem?_set_ne (Ne.symm n)]; exact h1, ?_, h3⟩
      cases dj <;> first
        | exact h2.elim
        | (obtain ⟨vs, r1, r2⟩ := h2; exact ⟨vs, r1, r2.le l⟩)
        | (obtain ⟨vs, r1, r2, r3⟩ := h2; exact ⟨vs, r1, r2, r3.le l⟩)
  · rcases get_set hj with ⟨rfl, z, _⟩ | ⟨n1, hj⟩
    · cases z
    · rcases get_set hk with ⟨rfl, z, _⟩ | ⟨n2, hk⟩
      · cases z
      · rw [List.getElem?_set_ne (Ne.symm n1)] at ha
        rw [List.getElem?_set_ne (Ne.symm n2)] at hb
        exact e.uq j k dj dk a hj hk ha hb
/-- what a new object holds -/
def ON (K : PySem.W.Frag) (ws : Wa) (B : Addr → Prop) (H : Hp) (o : HO) : D → Prop
  | .lst ds => ∃ vs, o = .lst vs ∧ DRs K ws B H vs ds
  | .dk es => ∃ kvs, o = .dK kvs ∧ kvs.map (·.1) = es.map (·.1) ∧ DRs K ws B H (kvs.map (·.2)) (es.map (·.2))
  | .dt es => ∃ kvs, o = .dT kvs ∧ kvs.map (·.1) = es.map (·.1) ∧ DRs K ws B H (kvs.map (·.2)) (es.map (·.2))
  | _ => False
/-- a new object is stored in slot i, which owns it -/
theorem Env.putOwn {p : Addr} {o : HO} (e : Env K ws B0 s σ H) (hp : H p = none) (ho : ON K ws (Bad ws B0 s σ) H o d) :
    Le ws (Own s σ) H ws (Own (Pm.put i (.ow d) s) (σ.set i (some (.ref p)))) (upd H p o) ∧ Env K ws B0 (Pm.put i (.ow d) s) (σ.set i (some (.ref p))) (upd H p o) := by
  have g := Grow.new (o := o) hp
  have hO : ∀ a, Own (Pm.put i (.ow d) s) (σ.set i (some (.ref p))) a → Own s σ a ∨ a = p := fun a ⟨j, dj, h1, h2⟩ => by
    rcases get_set h1 with ⟨rfl, z, hl⟩ | ⟨n, h1⟩
    · rw [List.getElem?_set_self (by rw [← e.len]; exact hl)] at h2
      cases h2; exact .inr rfl
    · rw [List.getElem?_set_ne (Ne.symm n)] at h2
      exact .inl ⟨j, dj, h1, h2⟩
  have l : Le ws (Own s σ) H ws (Own (Pm.put i (.ow d) s) (σ.set i (some (.ref p)))) (upd H p o) :=
    ⟨ws.le_refl, fun _ h => .inl h, fun a h => (hO a h).imp id fun z => by rw [z]; exact hp, fun a u h _ _ => g a u h, g.ex⟩
  refine ⟨l, ⟨?_, e.wr.grow g, fun a h z => e.wd a h (g.ex a z), fun a h z => e.dom a h (g.ex a z), fun j dj hj => ?_, fun j dj hj => ?_, fun j k dj dk a hj hk ha hb => ?_⟩⟩
  · rw [set_len, List.length_set]; exact e.len
  · rcases get_set hj with ⟨rfl, z, hl⟩ | ⟨n, hj⟩
    · cases z
    · obtain ⟨u, h1, h2⟩ := e.va j dj hj
      exact ⟨u, by rw [List.getElem?_set_ne (Ne.symm n)]; exact h1, h2.le l⟩
  · rcases get_set hj with ⟨rfl, z, hl⟩ | ⟨n, hj⟩
    · cases z
      refine ⟨p, by rw [List.getElem?_set_self (by rw [← e.len]; exact hl)], ?_, fun z => e.fresh hp (.inl z), fun z => e.fresh hp (.inr (.inl z))⟩
      cases d <;> first
        | exact ho.elim
        | (obtain ⟨vs, rfl, r2⟩ := ho; exact ⟨vs, upd_same, r2.le l⟩)
        | (obtain ⟨vs, rfl, r2, r3⟩ := ho; exact ⟨vs, upd_same, r2, r3.le l⟩)
    · obtain ⟨a, h1, h2, h3⟩ := e.ow j dj hj
      refine ⟨a, by rw [List.getElem?_set_ne (Ne.symm n)]; exact h1, ?_, h3⟩
      cases dj <;> first
        | exact h2.elim
        | (obtain ⟨vs, r1, r2⟩ := h2; exact ⟨vs, g _ _ r1, r2.le l⟩)
        | (obtain ⟨vs, r1, r2, r3⟩ := h2; exact ⟨vs, g _ _ r1, r2, r3.le l⟩)
  · have old : ∀ {q : Nat} {dq : D}, s.sl[q]? = some (.ow dq) → σ[q]? ≠ some (some (.ref p)) := fun {q dq} h1 h2 => e.fresh hp (.inr (.inr ⟨q, dq, h1, h2⟩))
    rcases get_set hj with ⟨rfl, z, hl⟩ | ⟨n1, hj'⟩
    · rw [List.getElem?_set_self (by rw [← e.len]; exact hl)] at ha
      cases ha
      rcases get_set hk with ⟨rfl, z, _⟩ | ⟨n2, hk'⟩
      · rfl
      · rw [List.getElem?_set_ne (Ne.symm n2)] at hb
        exact absurd hb (old hk')
    · rw [List.getElem?_set_ne (Ne.symm n1)] at ha
      rcases get_set hk with ⟨rfl, z, hl⟩ | ⟨n2, hk'⟩
      · rw [List.getElem?_set_self (by rw [← e.len]; exact hl)] at hb
        cases hb
        exact absurd ha (old hj')
      · rw [List.getElem?_set_ne (Ne.symm n2)] at hb
        exact e.uq j k dj dk a hj' hk' ha hb
end
end Pm
namespace Pm
open PySem L2

/-! ### an expression that makes a new object, for a slot to own -/
def tF (K : PySem.W.Frag) (mg : Str → Option Value) (Wx : WX) (f : Dn) : TE := fun σ H Q => ∃ ws B0 s, Env K ws B0 s σ H ∧ runAt K mg Wx ws B0 s σ H (f s) fun ws' s' d H' => ∀ p o, H' p = none → ON K ws' (Bad ws' B0 s' σ) H' o d → Q (.ref p) (upd H' p o)
abbrev PFm (X : Cx) (Wx : WX) (e : Expr) (f : Dn) : Prop := PE X e (tF X.K X.mg Wx f)
def sOwn (i : Nat) (f : Dn) : Sn := fun s => (f s).bind fun d s1 => .ok .next (put i (.ow d) s1)
section
variable {X : Cx} {Wx : WX} {e : Expr} {es : List Expr} {pos pos' : Pos} {x : Str} {i : Nat}
theorem mf_lst {g : An} (h : PAm X Wx es g) : PFm X Wx (.List es pos) (dLst g) := by
  refine (pe_lst h).mimp fun σ H Q ⟨ws, B0, s, e, h⟩ => ?_
  refine ⟨ws, B0, s, e, (runAt.bind h).mono fun ws1 s1 ds H1 l1 e1 h1 vs hvs => ?_⟩
  obtain ⟨ds', s2, l2, e2, r2, h2⟩ := runAt.fzs e1 hvs h1
  have hl := r2.length
  split at h2
  · exact ⟨by omega, fun p hp => runAt.here e2 h2 p _ hp ⟨_, rfl, r2⟩⟩
  · exact h2.elim
theorem mf_dK : PFm X Wx (.Dict [] [] pos) (dC (.dk [])) := by
  refine pe_dnewK.mimp fun σ H Q ⟨ws, B0, s, e, h⟩ => ?_
  exact fun p hp => runAt.here e h p _ hp ⟨[], rfl, rfl, .nil⟩
theorem mf_dT : PFm X Wx (.Dict [] [] pos) (dC (.dt [])) := by
  refine pe_dnewT.mimp fun σ H Q ⟨ws, B0, s, e, h⟩ => ?_
  exact fun p hp => runAt.here e h p _ hp ⟨[], rfl, rfl, .nil⟩
theorem ms_own {f : Dn} (hN : X.N.Nodup) (hi : X.N[i]? = some x) (hx : Loc X.env.scope x) (he : PFm X Wx e f) (hs : swapsWith e (some (.Name x pos')) pos.line X.env = pure false := by rfl)
    (hf : X.fn x = true ∨ X.env.scope.names.lookup x = some .local := by first | exact .inl rfl | exact .inr rfl | assumption) : PSm X Wx (.Assign [.Name x pos'] e pos) (sOwn i f) := by
  refine (ps_set hN hi hx he hs hf).mimp fun D0 σ H ⟨ws, B0, s, e, h⟩ => ?_
  refine ⟨ws, B0, s, e, (stAt.bind h).mono fun ws1 s1 d H1 l1 e1 h1 p o hp ho => ?_⟩
  obtain ⟨l2, e2⟩ := e1.putOwn (i := i) hp ho
  exact h1 _ _ _ l2 e2
theorem sSet_go {K : PySem.W.Frag} {mg : Str → Option Value} {f : Dn} (D0 : Ends) (σ : L2.St) (H : Hp) (h : tS K mg Wx (sSet i f) D0 σ H) : tAsg (tE K mg Wx f) (gName i) D0 σ H := by
  obtain ⟨ws, B0, s, e, h⟩ := h
  refine ⟨ws, B0, s, e, (stAt.bind h).mono fun ws1 s1 d H1 l1 e1 h1 v hv => ?_⟩
  obtain ⟨d', s2, l2, e2, r2, h2⟩ := stAt.fz e1 hv h1
  obtain ⟨l3, e3⟩ := e2.put (i := i) r2
  exact h2 _ _ _ l3 e3
theorem ms_set {f : Dn} (hN : X.N.Nodup) (hi : X.N[i]? = some x) (hx : Loc X.env.scope x) (he : PEm X Wx e f) (hs : swapsWith e (some (.Name x pos')) pos.line X.env = pure false := by rfl)
    (hf : X.fn x = true ∨ X.env.scope.names.lookup x = some .local := by first | exact .inl rfl | exact .inr rfl | assumption) : PSm X Wx (.Assign [.Name x pos'] e pos) (sSet i f) :=
  (ps_set hN hi hx he hs hf).mimp fun D0 σ H h => sSet_go D0 σ H h
end

/-! ### changes of owned objects and of the world -/
section
variable {K : PySem.W.Frag} {ws : Wa} {B0 : Addr → Prop} {s : S} {σ : L2.St} {H : Hp} {v : V} {d d' : D} {i : Nat} {a p : Addr} {o : HO}
theorem OO.le {ws' : Wa} {s' : S} {σ' : L2.St} {H' : Hp} {b : Addr} {dj : D} (l : Le ws (Own s σ) H ws' (Own s' σ') H') (hb : ∀ o, H b = some o → H' b = some o) (h : OO K ws (Bad ws B0 s σ) H b dj) : OO K ws' (Bad ws' B0 s' σ') H' b dj := by
  cases dj <;> first
    | exact h.elim
    | (obtain ⟨vs, r1, r2⟩ := h; exact ⟨vs, hb _ r1, r2.le l⟩)
    | (obtain ⟨vs, r1, r2, r3⟩ := h; exact ⟨vs, hb _ r1, r2, r3.le l⟩)
theorem ON.le {ws' : Wa} {s' : S} {σ' : L2.St} {H' : Hp} (l : Le ws (Own s σ) H ws' (Own s' σ') H') (h : ON K ws (Bad ws B0 s σ) H o d) : ON K ws' (Bad ws' B0 s' σ') H' o d := by
  cases d <;> first
    | exact h.elim
    | (obtain ⟨vs, r1, r2⟩ := h; exact ⟨vs, r1, r2.le l⟩)
    | (obtain ⟨vs, r1, r2, r3⟩ := h; exact ⟨vs, r1, r2, r3.le l⟩)
theorem ON.oo {B : Addr → Prop} (e : H a = some o) (h : ON K ws B H o d) : OO K ws B H a d := by
  cases d <;> first
    | exact h.elim
    | (obtain ⟨vs, rfl, r2⟩ := h; exact ⟨vs, e, r2⟩)
    | (obtain ⟨vs, rfl, r2, r3⟩ := h; exact ⟨vs, e, r2, r3⟩)
theorem Env.mutOwn (e : Env K ws B0 s σ H) (hi : s.sl[i]? = some (.ow d)) (ha : σ[i]? = some (some (.ref a))) (ho : ON K ws (Bad ws B0 s σ) H o d') :
    Le ws (Own s σ) H ws (Own (Pm.put i (.ow d') s) σ) (upd H a o) ∧ Env K ws B0 (Pm.put i (.ow d') s) σ (upd H a o) := by
  have hil : i < s.sl.length := (List.getElem?_eq_some_iff.mp hi).1
  have hO : ∀ b, Own (Pm.put i (.ow d') s) σ b → Own s σ b := fun b ⟨j, dj, h1, h2⟩ => by
    rcases get_set h1 with ⟨rfl, z, hl⟩ | ⟨n, h1⟩
    · exact ⟨j, d, hi, h2⟩
    · exact ⟨j, dj, h1, h2⟩
  have hOa : Own s σ a := ⟨i, d, hi, ha⟩
  obtain ⟨a', q1, q2, q3, q4⟩ := e.ow i d hi
  rw [ha] at q1
  cases q1
  have l : Le ws (Own s σ) H ws (Own (Pm.put i (.ow d') s) σ) (upd H a o) := by
    refine ⟨ws.le_refl, fun _ h => .inl h, fun b h => .inl (hO b h), fun b u h _ n => ?_, fun b h => ?_⟩
    · rw [upd_ne (fun z => n (by rw [z]; exact hOa))]; exact h
    · by_cases z : b = a
      · subst z; rw [upd_same] at h; cases h
      · rw [upd_ne z] at h; exact h
  have ne : ∀ {b : Addr}, ¬ Own s σ b → b ≠ a := fun n z => n (by rw [z]; exact hOa)
  refine ⟨l, ⟨by rw [set_len]; exact e.len, ?_, fun b h z => e.wd b h (l.ex b z), fun b h z => e.dom b h (l.ex b z), fun j dj hj => ?_, fun j dj hj => ?_, fun j k dj dk b hj hk hb hc => ?_⟩⟩
  · have hw := e.wr
    show WR ws s.w (upd H a o)
    unfold WR at hw ⊢
    split
    · trivial
    · rename_i l t e1 e2
      rw [e1, e2] at hw
      rw [upd_ne (fun z => q3 (by rw [← z]; exact e2))]
      exact hw
    · rename_i h1 h2
      split at hw
      · rename_i e1 e2; exact h1 e1 e2
      · rename_i e1 e2; exact h2 _ _ e1 e2
      · exact hw
  · rcases get_set hj with ⟨rfl, z, hl⟩ | ⟨n, hj⟩
    · cases z
    · obtain ⟨u, h1, h2⟩ := e.va j dj hj
      exact ⟨u, h1, h2.le l⟩
  · rcases get_set hj with ⟨rfl, z, hl⟩ | ⟨n, hj⟩
    · cases z
      exact ⟨a, ha, (ho.le l).oo upd_same, q3, q4⟩
    · obtain ⟨b, h1, h2, h3⟩ := e.ow j dj hj
      refine ⟨b, h1, h2.le l fun u hu => ?_, h3⟩
      rw [upd_ne (fun z => n (e.uq j i dj d a hj hi (by rw [← z]; exact h1) ha))]
      exact hu
  · have back : ∀ {q : Nat} {dq : D}, (Pm.put i (.ow d') s).sl[q]? = some (.ow dq) → ∃ dr, s.sl[q]? = some (.ow dr) := fun {q dq} h => by
      rcases get_set h with ⟨rfl, z, hl⟩ | ⟨n, h⟩
      · exact ⟨d, hi⟩
      · exact ⟨dq, h⟩
    obtain ⟨r1, z1⟩ := back hj
    obtain ⟨r2, z2⟩ := back hk
    exact e.uq j k r1 r2 b z1 z2 hb hc
theorem Env.mkTown (e : Env K ws B0 s σ H) (q : s.w.town = none) (hp : H p = none) :
    Le ws (Own s σ) H ⟨some p⟩ (Own { s with w := ⟨some []⟩ } σ) (upd H p (.lst [])) ∧ Env K ⟨some p⟩ B0 { s with w := ⟨some []⟩ } σ (upd H p (.lst [])) := by
  have hw := e.wr
  unfold WR at hw
  rw [q] at hw
  cases qa : ws.town with
  | some t => rw [qa] at hw; exact hw.elim
  | none =>
    have g := Grow.new (o := .lst []) hp
    have l : Le ws (Own s σ) H ⟨some p⟩ (Own { s with w := ⟨some []⟩ } σ) (upd H p (.lst [])) := by
      refine ⟨fun a z => ?_, fun a z => ?_, fun a z => .inl z, fun a o z _ _ => g a o z, g.ex⟩
      · rw [qa] at z; cases z
      · cases z; exact .inr hp
    refine ⟨l, ⟨e.len, ?_, fun a h z => ?_, fun a h z => e.dom a h (g.ex a z), fun j dj hj => ?_, fun j dj hj => ?_, e.uq⟩⟩
    · show upd H p (.lst []) p = some _
      exact upd_same
    · cases h; rw [upd_same] at z; cases z
    · obtain ⟨u, h1, h2⟩ := e.va j dj hj
      exact ⟨u, h1, h2.le l⟩
    · obtain ⟨b, h1, h2, h3, h4⟩ := e.ow j dj hj
      refine ⟨b, h1, h2.le l fun u hu => g _ _ hu, fun z => ?_, h4⟩
      cases z
      exact h2.there hp
theorem Env.mutTown {l l' : List Int} (e : Env K ws B0 s σ H) (q : s.w.town = some l) (ht : ws.town = some a) :
    Le ws (Own s σ) H ws (Own { s with w := ⟨some l'⟩ } σ) (upd H a (.lst (l'.map V.int))) ∧ Env K ws B0 { s with w := ⟨some l'⟩ } σ (upd H a (.lst (l'.map V.int))) := by
  have ex : ∀ b, upd H a (.lst (l'.map V.int)) b = none → H b = none := fun b h => by
    by_cases z : b = a
    · subst z; rw [upd_same] at h; cases h
    · rw [upd_ne z] at h; exact h
  have le : Le ws (Own s σ) H ws (Own { s with w := ⟨some l'⟩ } σ) (upd H a (.lst (l'.map V.int))) := by
    refine ⟨ws.le_refl, fun _ h => .inl h, fun _ h => .inl h, fun b u h n _ => ?_, ex⟩
    rw [upd_ne (fun z => n (by rw [z]; exact ht))]; exact h
  refine ⟨le, ⟨e.len, ?_, fun b h z => e.wd b h (ex b z), fun b h z => e.dom b h (ex b z), fun j dj hj => ?_, fun j dj hj => ?_, e.uq⟩⟩
  · show WR ws ⟨some l'⟩ _
    unfold WR
    simp only [ht]
    exact upd_same
  · obtain ⟨u, h1, h2⟩ := e.va j dj hj
    exact ⟨u, h1, h2.le le⟩
  · obtain ⟨b, h1, h2, h3, h4⟩ := e.ow j dj hj
    refine ⟨b, h1, h2.le le fun u hu => ?_, h3, h4⟩
    rw [upd_ne (fun z => h3 (by rw [z]; exact ht))]
    exact hu
end

/-! ### _law_town = [] : the world's list -/
def sTown (i : Nat) : Sn := fun s => match s.w.town with
  | none => .ok .next (put i (.va .town) { s with w := ⟨some []⟩ })
  | some _ => .bad
section
variable {X : Cx} {Wx : WX} {pos pos' : Pos} {x : Str} {i : Nat}
theorem ms_town {p : Pos} (hN : X.N.Nodup) (hi : X.N[i]? = some x) (hx : L2.Loc X.env.scope x) (hs : swapsWith (.List [] p) (some (.Name x pos')) pos.line X.env = pure false := by rfl)
    (hf : X.fn x = true ∨ X.env.scope.names.lookup x = some .local := by first | exact .inl rfl | exact .inr rfl | assumption) : PSm X Wx (.Assign [.Name x pos'] (.List [] p) pos) (sTown i) := by
  refine (ps_set hN hi hx (pe_lst pa_nil) hs hf).mimp fun D0 σ H ⟨ws, B0, s, e, h⟩ => ?_
  refine ⟨by show 0 ≤ sizeLine; exact Nat.zero_le _, fun p hp => ?_⟩
  unfold sTown at h
  cases q : s.w.town with
  | some l => rw [q] at h; exact h.elim
  | none =>
    rw [q] at h
    obtain ⟨l1, e1⟩ := e.mkTown q hp
    obtain ⟨l2, e2⟩ := e1.put (i := i) (v := .ref p) (d := .town) (.town rfl)
    exact h _ _ _ (l1.trans l2) e2

/-! ### methods that change an owned list, or the town -/
/-- the receiver, a list just now; the arguments; what is done -/
def dAct (act : D → List D → Dn) (f : Dn) (g : An) : Dn := fun s => (f s).bind fun r s1 => match rs s1 r with
  | some (.lst _) => (g s1).bind fun xs s2 => (fzs xs s2).bind fun ys s3 => act r ys s3
  | _ => .bad
def appA (r : D) (xs : List D) : Dn := fun s => match r, xs with
  | .own i, [x] => (match s.sl[i]? with
    | some (.ow (.lst l)) => if l.length < sizeLine then .ok .non (put i (.ow (.lst (l ++ [x]))) s) else .bad
    | _ => .bad)
  | .town, [.int k] => (match s.w.town with
    | some l => if l.length < sizeLine then .ok .non { s with w := ⟨some (l ++ [k])⟩ } else .bad
    | _ => .bad)
  | _, _ => .bad
def extA (r : D) (xs : List D) : Dn := fun s => match r, xs with
  | .own i, [.lst m] => (match s.sl[i]? with
    | some (.ow (.lst l)) => if l.length + m.length ≤ sizeLine then .ok .non (put i (.ow (.lst (l ++ m))) s) else .bad
    | _ => .bad)
  | _, _ => .bad
def popA (r : D) (xs : List D) : Dn := fun s => match r, xs with
  | .own i, [] => (match s.sl[i]? with
    | some (.ow (.lst l)) => (match l[l.length - 1]? with
      | some y => .ok y (put i (.ow (.lst l.dropLast)) s)
      | none => .bad)
    | _ => .bad)
  | _, _ => .bad
def popAtA (r : D) (xs : List D) : Dn := fun s => match r, xs with
  | .own i, [.int k] => (match s.sl[i]? with
    | some (.ow (.lst l)) => if 0 ≤ k ∧ k < l.length then (match l[k.toNat]? with
      | some y => .ok y (put i (.ow (.lst (l.eraseIdx k.toNat))) s)
      | none => .bad) else .bad
    | _ => .bad)
  | _, _ => .bad
def ActS (K : PySem.W.Frag) (r : V → List V → Hp → VK → Prop) (act : D → List D → Dn) : Prop := ∀ (mg : Str → Option Value) (Wx : WX) (ws : Wa) (B0 : Addr → Prop) (s : S) (σ : L2.St) (H : Hp) (x : V) (rc : D) (xs : List V) (ds : List D) (Q : VK),
  Env K ws B0 s σ H → ER K ws B0 s σ H x rc → DRs K ws (Bad ws B0 s σ) H xs ds → runAt K mg Wx ws B0 s σ H (act rc ds s) (fun ws' s' d H' => ∀ v, ER K ws' B0 s' σ H' v d → Q v H') → r x xs H Q
variable {o e : Expr} {es : List Expr} {apos cpos : Pos}
theorem own_ref {K : PySem.W.Frag} {ws : Wa} {B0 : Addr → Prop} {s : S} {σ : L2.St} {H : Hp} {v : V} {j : Nat} {d : D} (e : Env K ws B0 s σ H) (hv : ER K ws B0 s σ H v (.own j)) (hd : s.sl[j]? = some (.ow d)) :
    ∃ a, v = .ref a ∧ σ[j]? = some (some (.ref a)) ∧ OO K ws (Bad ws B0 s σ) H a d := by
  rcases hv with ⟨k, z, hv⟩ | hv
  · cases z
    obtain ⟨a, h1, h2, _⟩ := e.ow j d hd
    rw [h1] at hv
    cases hv
    exact ⟨a, rfl, h1, h2⟩
  · cases hv
theorem town_ref {K : PySem.W.Frag} {ws : Wa} {B0 : Addr → Prop} {s : S} {σ : L2.St} {H : Hp} {v : V} {l : List Int} (e : Env K ws B0 s σ H) (hv : ER K ws B0 s σ H v .town) (hl : s.w.town = some l) :
    ∃ a, v = .ref a ∧ ws.town = some a ∧ H a = some (.lst (l.map V.int)) := by
  rcases hv with ⟨k, z, hv⟩ | hv
  · cases z
  · cases hv with
    | town h =>
      have hw := e.wr
      unfold WR at hw
      rw [hl, h] at hw
      exact ⟨_, rfl, h, hw⟩
theorem m_act {m : Str} {id : String} {r : V → List V → Hp → VK → Prop} {act : D → List D → Dn} {f : Dn} {g : An} (slot : Slot "list" m id) (hty : typeOf (.builtin id) = pure (.type "method_descriptor")) (hm : MtR X id r) (hs : ActS X.K r act) (ho : PEm X Wx o f) (ha : PAm X Wx (e :: es) g)
    (hbase : attributeBase o m X.env (eval o X.env) = eval o X.env := by rfl)
    (hfew : ((backTo cpos (starEach (e :: es) X.env)).all (fun x => !x.1) && (backToKw cpos (keywordEach [] X.env)).all (fun x => x.1.isSome)
      && decide ((e :: es).length + ([] : List Keyword).length + (if ([] : List Keyword).isEmpty then 0 else 1) < 30)) = true := by rfl)
    (hline : (apos.endLine == cpos.line) = true := by rfl) (hst : starEach (e :: es) X.env = (false, eval e X.env) :: starEach es X.env := by rfl) (hplain : (backTo cpos (starEach es X.env)).any (·.1) = false := by rfl) :
    PEm X Wx (.Call (.Attribute o m apos) (e :: es) [] cpos) (dAct act f g) := by
  refine (pe_bm PySem.F.plainAttrs_list slot hty hm ho ha hbase hfew hline hst hplain).mimp fun σ H Q ⟨ws, B0, s, e, h⟩ => ?_
  refine ⟨ws, B0, s, e, (runAt.bind h).mono fun ws1 s1 rc H1 l1 e1 h1 v hv => ?_⟩
  cases q : rs s1 rc with
  | none => rw [q] at h1; exact h1.elim
  | some z =>
    rw [q] at h1
    cases z with
    | lst l =>
      obtain ⟨a, vs, rfl, t, _⟩ := e1.rs hv q
      refine ⟨.inl ⟨rfl, vs, .inl (.inl t)⟩, ⟨ws1, B0, s1, e1, (runAt.bind h1).mono fun ws2 s2 xs H2 l2 e2 h2 us hus => ?_⟩⟩
      obtain ⟨ys, s3, l3, e3, r3, h3⟩ := runAt.fzs e2 hus h2
      exact hs _ _ _ _ _ _ _ _ _ _ _ _ e3 (ER.le (l2.trans l3) hv) r3 h3
    | _ => exact h1.elim
theorem as_app {K : PySem.W.Frag} : ActS K rAppend appA := by
  intro mg Wx ws B0 s σ H x rc xs ds Q e hx hr h
  unfold appA at h
  split at h
  · rename_i i y
    split at h
    · rename_i l hl
      split at h
      · rename_i hz
        obtain ⟨a, rfl, ha, vs, q1, q2⟩ := own_ref e hx hl
        cases hr with
        | cons hy hn =>
          cases hn
          have hlen := q2.length
          obtain ⟨l1, e1⟩ := e.mutOwn (o := .lst (vs ++ [_])) (d' := .lst (l ++ [y])) hl ha ⟨_, rfl, q2.append (.one hy)⟩
          exact ⟨a, vs, _, rfl, rfl, q1, by omega, h _ _ l1 e1 .non (.inr .non)⟩
      · exact h.elim
    · exact h.elim
  · rename_i k
    split at h
    · rename_i l hl
      split at h
      · rename_i hz
        obtain ⟨a, rfl, ht, q1⟩ := town_ref e hx hl
        cases hr with
        | cons hy hn =>
          cases hn
          cases hy
          obtain ⟨l1, e1⟩ := e.mutTown (l' := l ++ [k]) hl ht
          refine ⟨a, _, _, rfl, rfl, q1, by rw [List.length_map]; exact hz, ?_⟩
          have := h _ _ l1 e1 .non (.inr .non)
          rw [List.map_append] at this
          exact this
      · exact h.elim
    · exact h.elim
  · exact h.elim
theorem as_ext {K : PySem.W.Frag} : ActS K rExtend extA := by
  intro mg Wx ws B0 s σ H x rc xs ds Q e hx hr h
  unfold extA at h
  split at h
  · rename_i i m
    split at h
    · rename_i l hl
      split at h
      · rename_i hz
        obtain ⟨a, rfl, ha, vs, q1, q2⟩ := own_ref e hx hl
        cases hr with
        | cons hy hn =>
          cases hn
          cases hy with
          | lst nb hm rm =>
            have hlen := q2.length
            have hlen2 := rm.length
            obtain ⟨l1, e1⟩ := e.mutOwn (o := .lst (vs ++ _)) (d' := .lst (l ++ m)) hl ha ⟨_, rfl, q2.append rm⟩
            exact ⟨a, _, vs, _, rfl, rfl, q1, hm, by omega, h _ _ l1 e1 .non (.inr .non)⟩
      · exact h.elim
    · exact h.elim
  · exact h.elim
theorem m_append {f g : Dn} (ho : PEm X Wx o f) (he : PEm X Wx e g) (hbase : attributeBase o "append" X.env (eval o X.env) = eval o X.env := by rfl)
    (hfew : ((backTo cpos (starEach (e :: []) X.env)).all (fun x => !x.1) && (backToKw cpos (keywordEach [] X.env)).all (fun x => x.1.isSome)
      && decide ((e :: ([] : List Expr)).length + ([] : List Keyword).length + (if ([] : List Keyword).isEmpty then 0 else 1) < 30)) = true := by rfl)
    (hline : (apos.endLine == cpos.line) = true := by rfl) (hs : starEach (e :: []) X.env = (false, eval e X.env) :: starEach [] X.env := by rfl) (hplain : (backTo cpos (starEach [] X.env)).any (·.1) = false := by rfl) :
    PEm X Wx (.Call (.Attribute o "append" apos) [e] [] cpos) (dAct appA f (aCons g aNil)) :=
  m_act PySem.F.slot_list_append PySem.F.type_list_append mt_append as_app ho (ma_cons he ma_nil hs) hbase hfew hline hs hplain
theorem m_extend {f g : Dn} (ho : PEm X Wx o f) (he : PEm X Wx e g) (hbase : attributeBase o "extend" X.env (eval o X.env) = eval o X.env := by rfl)
    (hfew : ((backTo cpos (starEach (e :: []) X.env)).all (fun x => !x.1) && (backToKw cpos (keywordEach [] X.env)).all (fun x => x.1.isSome)
      && decide ((e :: ([] : List Expr)).length + ([] : List Keyword).length + (if ([] : List Keyword).isEmpty then 0 else 1) < 30)) = true := by rfl)
    (hline : (apos.endLine == cpos.line) = true := by rfl) (hs : starEach (e :: []) X.env = (false, eval e X.env) :: starEach [] X.env := by rfl) (hplain : (backTo cpos (starEach [] X.env)).any (·.1) = false := by rfl) :
    PEm X Wx (.Call (.Attribute o "extend" apos) [e] [] cpos) (dAct extA f (aCons g aNil)) :=
  m_act PySem.F.slot_list_extend PySem.F.type_list_extend mt_extend as_ext ho (ma_cons he ma_nil hs) hbase hfew hline hs hplain

/-! ### x[i] = e -/
def setA (r k v : D) : Sn := fun s => match r, k with
  | .own i, .int j => (match s.sl[i]? with
    | some (.ow (.lst l)) => (match ixN l.length j with
      | some n => .ok .next (put i (.ow (.lst (l.set n v))) s)
      | none => .bad)
    | _ => .bad)
  | .town, .int j => (match s.w.town, v with
    | some l, .int k => (match ixN l.length j with
      | some n => .ok .next { s with w := ⟨some (l.set n k)⟩ }
      | none => .bad)
    | _, _ => .bad)
  | _, _ => .bad
def sSub (f g h : Dn) : Sn := fun s => (h s).bind fun v s1 => (fz v s1).bind fun v' s2 => (f s2).bind fun r s3 => (g s3).bind fun k s4 => setA r k v' s4
theorem ms_sub {i : Expr} {tpos : Pos} {f g h : Dn} (ho : PEm X Wx o f) (hi : PEm X Wx i g) (he : PEm X Wx e h)
    (ha : ∀ v, assign (.Subscript o i tpos) X.env v = (do
      let ov ← holding [v] (eval o X.env)
      let iv ← holding [v, ov] (eval i X.env)
      standAt tpos
      holding [v, ov, iv] (setItem ov iv v)
      release [v, ov, iv] []) := by intro _; rfl)
    (hs : swapsWithSole [.Subscript o i tpos] e pos.line X.env = pure false := by rfl) (hw : swappedStores [.Subscript o i tpos] e X.env = pure none := by rfl)
    (h1 : (assignEach [.Subscript o i tpos] X.env).map (·.2) = [assign (.Subscript o i tpos) X.env] := by rfl) : PSm X Wx (.Assign [.Subscript o i tpos] e pos) (sSub f g h) := by
  refine (ps_asg he (pg_sub ho hi set_list ha) hs hw h1).mimp fun D0 σ H ⟨ws, B0, s, e, q⟩ => ?_
  refine ⟨ws, B0, s, e, (stAt.bind q).mono fun ws1 s1 v H1 l1 e1 q1 u hu => ?_⟩
  obtain ⟨v', s2, l2, e2, r2, q2⟩ := stAt.fz e1 hu q1
  refine ⟨ws1, B0, s2, e2, (stAt.bind q2).mono fun ws3 s3 r H3 l3 e3 q3 w hw => ?_⟩
  refine ⟨ws3, B0, s3, e3, (stAt.bind q3).mono fun ws4 s4 k H4 l4 e4 q4 z hz => ?_⟩
  have hw4 := ER.le l4 hw
  have r4 := r2.le (l3.trans l4)
  unfold setA at q4
  split at q4
  · rename_i i j
    rcases hz with ⟨_, zz, _⟩ | hz
    · cases zz
    · cases hz
      split at q4
      · rename_i l hl
        split at q4
        · rename_i n hn
          obtain ⟨a, rfl, ha, vs, p1, p2⟩ := own_ref e4 hw4 hl
          have hlen := p2.length
          obtain ⟨l5, e5⟩ := e4.mutOwn (o := .lst (vs.set n u)) (d' := .lst (l.set n v')) hl ha ⟨_, rfl, p2.set r4 n⟩
          exact ⟨a, vs, j, n, rfl, rfl, p1, by rw [hlen]; exact hn, q4 _ _ _ l5 e5⟩
        · exact q4.elim
      · exact q4.elim
  · rename_i j
    rcases hz with ⟨_, zz, _⟩ | hz
    · cases zz
    · cases hz
      split at q4
      · rename_i l k hl
        cases r4
        split at q4
        · rename_i n hn
          obtain ⟨a, rfl, ht, p1⟩ := town_ref e4 hw4 hl
          obtain ⟨l5, e5⟩ := e4.mutTown (l' := l.set n k) hl ht
          refine ⟨a, _, j, n, rfl, rfl, p1, by rw [List.length_map]; exact hn, ?_⟩
          have := q4 _ _ _ l5 e5
          rw [List.map_set] at this
          exact this
        · exact q4.elim
      · exact q4.elim
  · exact q4.elim

/-! ### x += e -/
def sAug (i : Nat) (op : D → D → Option D) (f : Dn) : Sn := fun s => match s.sl[i]? with
  | some (.va x) => (f s).bind fun y s1 => (Res.opt ((rs s1 y).bind fun b => op x b) s1).bind fun z s2 => .ok .next (put i (.va z) s2)
  | _ => .bad
def iaddD : D → D → Option D
  | .int i, .int j => some (.int (i + j))
  | _, _ => none
theorem ms_aug {f : Dn} {i : Nat} (hN : X.N.Nodup) (hi : X.N[i]? = some x) (hx : L2.Loc X.env.scope x) (he : PEm X Wx e f) (hf : X.fn x = true ∨ X.env.scope.names.lookup x = some .local := by first | exact .inl rfl | exact .inr rfl | assumption) :
    PSm X Wx (.AugAssign (.Name x pos') .Add e pos) (sAug i iaddD f) := by
  refine (ps_aug hN hi hx he ip_add hf).mimp fun D0 σ H ⟨ws, B0, s, e, q⟩ => ?_
  unfold sAug at q
  cases hs : s.sl[i]? with
  | none => rw [hs] at q; exact q.elim
  | some sl =>
    rw [hs] at q
    cases sl with
    | no => exact q.elim
    | ow d => exact q.elim
    | va d =>
      obtain ⟨v, h1, h2⟩ := e.va i d hs
      refine ⟨v, h1, ws, B0, s, e, (stAt.bind q).mono fun ws1 s1 y H1 l1 e1 q1 u hu => ?_⟩
      have hv1 := h2.le l1
      cases qr : rs s1 y with
      | none => rw [qr] at q1; exact q1.elim
      | some b =>
        rw [qr] at q1
        simp only [Option.bind_some] at q1
        have hb := e1.rs hu qr
        cases d <;> cases b <;> first
          | exact q1.elim
          | (cases hv1; cases hb
             simp only [iaddD, opt_some, bind_ok] at q1
             obtain ⟨l2, e2⟩ := e1.put (i := i) (v := .int _) (d := .int _) (.int _)
             exact ⟨_, _, rfl, rfl, q1 _ _ _ l2 e2⟩)
end
end Pm
namespace Pm
open PySem PySem.Spec PyProof.Rows L2

/-! ### contracts -/
inductive Rt where
  | val (d : D) (w : W) | exc (c : Str) (w : W)
abbrev Mf := List D → W → Option Rt
abbrev Post (ws : Wa) (H : Hp) (ws' : Wa) (H' : Hp) : Prop := Le ws (fun _ => False) H ws' (fun _ => False) H'
def spF (K : PySem.W.Frag) (mg : Str → Option Value) (n : Nat) (m : Mf) : Sp := fun vs H Q E => vs.length = n ∧ ∃ (ws : Wa) (B0 : Addr → Prop) (w : W) (ds : List D), WR ws w H ∧ (∀ a, ws.has a → H a ≠ none) ∧ (∀ a, B0 a → H a ≠ none) ∧ DRs K ws (fun a => ws.has a ∨ B0 a) H vs ds ∧
  (match m ds w with
  | some (.val d w') => ∀ v ws' H', Post ws H ws' H' → WR ws' w' H' → DR K ws' (fun a => ws'.has a ∨ B0 a) H' v d → Q v H'
  | some (.exc c w') => ∀ ws' H' C, mg c = some (.ref C) → Post ws H ws' H' → WR ws' w' H' → E (.ref C) none H'
  | none => False)
theorem WR.wd {ws : Wa} {w : W} {H : Hp} (h : WR ws w H) : ∀ a, ws.has a → H a ≠ none := fun a z => by
  unfold WR at h
  unfold Wa.has at z
  rw [z] at h
  cases q : w.town with
  | none => rw [q] at h; exact h.elim
  | some l => rw [q] at h; exact sm h
def dCall (m : Mf) (g : An) : Dn := fun s => (g s).bind fun ds s1 => (fzs ds s1).bind fun es s2 => match m es s2.w with
  | some (.val d w') => .ok d { s2 with w := w' }
  | some (.exc c w') => .ex c { s2 with w := w' }
  | none => .bad
section
variable {K : PySem.W.Frag} {ws ws' : Wa} {B0 : Addr → Prop} {s : S} {σ : L2.St} {H H' : Hp} {w' : W}
theorem Post.le (p : Post ws H ws' H') (O : Addr → Prop) : Le ws O H ws' O H' := ⟨p.wle, p.new, fun _ h => .inl h, fun a o h1 h2 _ => p.keep a o h1 h2 (fun z => z), p.ex⟩
theorem Env.after (e : Env K ws B0 s σ H) (p : Post ws H ws' H') (hw : WR ws' w' H') : Le ws (Own s σ) H ws' (Own { s with w := w' } σ) H' ∧ Env K ws' B0 { s with w := w' } σ H' := by
  have l : Le ws (Own s σ) H ws' (Own { s with w := w' } σ) H' := p.le (Own s σ)
  refine ⟨l, ⟨e.len, hw, hw.wd, fun a h z => e.dom a h (p.ex a z), fun j dj hj => ?_, fun j dj hj => ?_, e.uq⟩⟩
  · obtain ⟨u, h1, h2⟩ := e.va j dj hj
    exact ⟨u, h1, h2.le l⟩
  · obtain ⟨b, h1, h2, h3, h4⟩ := e.ow j dj hj
    refine ⟨b, h1, h2.le l fun u hu => p.keep b u hu h3 (fun z => z), fun z => ?_, h4⟩
    rcases p.new b z with q | q
    · exact h3 q
    · exact h2.there q
end
section
variable {X : Cx} {Wx : WX} {e : Expr} {es : List Expr} {pos p : Pos} {x : Str}
theorem dCall_go {K : PySem.W.Frag} {mg : Str → Option Value} {m : Mf} {g : An} {n : Nat} (hn : ∀ ds w r, m ds w = some r → ds.length = n) (σ : L2.St) (H : Hp) (Q : VK) (h : tE K mg Wx (dCall m g) σ H Q) : tCallS (spF K mg n m) (WE Wx) (tA K mg Wx g) σ H Q := by
  obtain ⟨ws, B0, s, e, h⟩ := h
  refine ⟨ws, B0, s, e, (runAt.bind h).mono fun ws1 s1 ds H1 l1 e1 h1 vs hvs => ?_⟩
  obtain ⟨ds', s2, l2, e2, r2, h2⟩ := runAt.fzs e1 hvs h1
  have hl := r2.length
  cases q : m ds' s2.w with
  | none => rw [q] at h2; exact h2.elim
  | some r =>
    rw [q] at h2
    refine ⟨by rw [hl]; exact hn _ _ _ q, ws1, fun a => B0 a ∨ Own s2 σ a, s2.w, ds', e2.wr, e2.wd, fun a z => ?_, r2, ?_⟩
    · exact e2.bad a (.inr z)
    · rw [q]
      cases r with
      | val d w' =>
        intro v ws' H' po hw hd
        obtain ⟨l3, e3⟩ := e2.after po hw
        exact h2 ws' H' l3 e3 v (.inr hd)
      | exc c w' =>
        intro ws' H' C hC po hw
        obtain ⟨l3, e3⟩ := e2.after po hw
        exact h2 ws' H' C hC l3 e3
theorem m_call {m : Mf} {g : An} {k : Nat} {f : Addr} {fd : FuncData} {ps : List Str} (F : FnOk X.prog X.w X.K X.mg X.base (L2.CX X.prog X.w) k f fd ps (spF X.K X.mg ps.length m)) (hn : ∀ ds w r, m ds w = some r → ds.length = ps.length) (hr : Room k X.A) (hm : X.mg x = some (.ref f)) (hk : PySem.W.keepIn X.K (.ref f) = true) (hb : Binds X.K fd ps []) (tk : Takes X Wx) (ha : PAm X Wx (e :: es) g)
    (hg : Gl X x := by rfl) (hdb : (x == ("__debug__" : Str)) = false := by decide) (he : starEach (e :: es) X.env = (false, eval e X.env) :: starEach es X.env := by rfl) (hpl : (backTo pos (starEach es X.env)).any (·.1) = false := by rfl) :
    PEm X Wx (.Call (.Name x p) (e :: es) [] pos) (dCall m g) :=
  (pe_callS F hr hg hm hk hb (fun σ => passAt tk σ) ha hdb he hpl).mimp fun σ H Q h => dCall_go hn σ H Q h
end

/-! ### a def keeps its contract -/
def runB (b : Sn) (n : Nat) (ds : List D) (w : W) : Option Rt := match b ⟨ds.map Sl.va ++ List.replicate (n - ds.length) .no, w⟩ with
  | .ok (.ret d) s => some (.val d s.w)
  | .ok .next s => some (.val .non s.w)
  | .ex c s => some (.exc c s.w)
  | _ => none
theorem getElem?_start {α : Type} {xs : List α} {n i : Nat} {β : Type} {f : α → β} {z y : β} (h : (xs.map f ++ List.replicate n z)[i]? = some y) : (∃ x, xs[i]? = some x ∧ y = f x) ∨ y = z := by
  by_cases hi : i < xs.length
  · rw [List.getElem?_append_left (by simpa using hi), List.getElem?_map] at h
    cases e : xs[i]? with
    | none => rw [e] at h; cases h
    | some x => rw [e] at h; exact .inl ⟨x, rfl, (Option.some.inj h).symm⟩
  · rw [List.getElem?_append_right (by simpa using hi), List.getElem?_replicate] at h
    split at h
    · exact .inr (Option.some.inj h).symm
    · cases h
theorem env_start {K : PySem.W.Frag} {ws : Wa} {B0 : Addr → Prop} {w : W} {vs : List V} {ds : List D} {H : Hp} {N : List Str} (hw : WR ws w H) (hd : ∀ a, B0 a → H a ≠ none) (r : DRs K ws (fun a => ws.has a ∨ B0 a) H vs ds) :
    (∀ a, ¬ Own ⟨ds.map Sl.va ++ List.replicate (N.length - ds.length) .no, w⟩ (L2.start N vs) a) ∧ Env K ws B0 ⟨ds.map Sl.va ++ List.replicate (N.length - ds.length) .no, w⟩ (L2.start N vs) H := by
  have hl := r.length
  have noOw : ∀ (i : Nat) (d : D), (ds.map Sl.va ++ List.replicate (N.length - ds.length) .no)[i]? ≠ some (.ow d) := fun i d h => by
    rcases getElem?_start h with ⟨x, _, z⟩ | z <;> cases z
  have nO : ∀ a, ¬ Own ⟨ds.map Sl.va ++ List.replicate (N.length - ds.length) .no, w⟩ (L2.start N vs) a := fun a ⟨i, d, h, _⟩ => noOw i d h
  refine ⟨nO, ⟨by simp [L2.start, hl], hw, hw.wd, hd, fun i d h => ?_, fun i d h => absurd h (noOw i d), fun i j d e a h => absurd h (noOw i d)⟩⟩
  rcases getElem?_start h with ⟨x, hx, z⟩ | z
  · cases z
    obtain ⟨v, h1, h2⟩ := r.get hx
    have hi : i < vs.length := (List.getElem?_eq_some_iff.mp h1).1
    refine ⟨v, ?_, h2.keep ws.le_refl (fun _ _ e _ => e) fun a z => ?_⟩
    · unfold L2.start
      rw [List.getElem?_append_left (by simpa using hi), List.getElem?_map, h1]
      rfl
    · rcases z with z | z | z
      · exact .inl (.inl z)
      · exact .inl (.inr z)
      · exact absurd z (nO a)
  · cases z
section
variable {P : Program} {w : World} {K : PySem.W.Frag} {mg : Str → Option Value} {base : Heap}
theorem fn_ok {x qual : Str} {st : Stmt} {f : Addr} {fd : FuncData} {N ps : List Str} {k : Nat} {m : Mf} {b : Sn} (F : Fun K x qual st f fd) (Sc : FnScope N ps (defScope st))
    (hm : ∀ ds w r, m ds w = some r → runB b N.length ds w = some r)
    (hbody : ∀ (cdv : Value) (A : Around) (outer : List PySem.Env) (s : Shared) (H : Hp) (E : XK), Room k (A.deeper (envOfC qual (defScope st) s.heap.objs.size f cdv)) →
      PSsm (cxOf (L2.CX P w) P w K mg base N qual (defScope st) f cdv A outer s H E) (fun cls d _ H => E cls d H) (defBody st) b) : FnOk P w K mg base (L2.CX P w) (k + 1) f fd ps (spF K mg ps.length m) := by
  refine F.okX Sc (fun vs H Q E h => h.1) fun cdv A outer s H vs Q E hr h => ⟨_, hbody cdv A outer s H E hr, ?_⟩
  obtain ⟨hl, ws, B0, w1, ds, hw, hwd, hd, r, h⟩ := h
  obtain ⟨nO, e⟩ := env_start (N := N) hw hd r
  refine ⟨ws, B0, _, e, ?_⟩
  cases q : m ds w1 with
  | none => rw [q] at h; exact h.elim
  | some rt =>
    rw [q] at h
    have hb := hm ds w1 rt q
    unfold runB at hb
    have po : ∀ {σ' : L2.St} {ws' : Wa} {s' : S} {H' : Hp}, Le ws (Own ⟨ds.map Sl.va ++ List.replicate (N.length - ds.length) .no, w1⟩ (L2.start N vs)) H ws' (Own s' σ') H' → Post ws H ws' H' := fun l =>
      ⟨l.wle, l.new, fun _ z => z.elim, fun a o h1 h2 _ => l.keep a o h1 h2 (nO a), l.ex⟩
    cases qb : b ⟨ds.map Sl.va ++ List.replicate (N.length - ds.length) .no, w1⟩ with
    | bad => rw [qb] at hb; cases hb
    | ex c s' =>
      rw [qb] at hb
      cases hb
      exact fun σ' ws' H' C hC l e' => h ws' H' C hC (po l) e'.wr
    | ok fl s' =>
      rw [qb] at hb
      intro σ' ws' H' l e'
      cases fl with
      | next => cases hb; exact h .non ws' H' (po l) e'.wr .non
      | brk => cases hb
      | cont => cases hb
      | ret d => cases hb; exact fun v hv => h v ws' H' (po l) e'.wr hv
end

/-! ### raise X() -/
def sRaise (c : Str) : Sn := fun s => .ex c s
section
variable {X : Cx} {Wx : WX} {pos p pos' : Pos} {x : Str} {C : Addr} {bmB : List Value} {B newId initId : String}
theorem pmk_own0 (F : ExcBaseFacts B newId initId bmB) (q : PySem.W.excIn X.K C bmB newId = true) (gC : X.mg x = some (.ref C)) (kC : PySem.W.keepIn X.K (.ref C) = true) (r : Raises X (.ref C)) (hg : Gl X x)
    (hdb : (x == ("__debug__" : Str)) = false := by decide) : PMk X (.Call (.Name x p) [] [] pos) (fun _ H Q => Q (.ref C) none H) := by
  intro pins s σ H Q I h
  refine wpAny_Call_Name_kw (ld_glob I hg gC ?_ hdb)
  refine PySem.W.callWith_K0 I.kIn kC ?_
  obtain ⟨bm, N, nm, qn, bs, hdct, sn, sub, ab, col, dd, k0, k1, k2, k3, k5, mN, hC, hN, hni, T⟩ := exc_obj I.kIn q
  refine wpAny_call_exc_subT F T hC hN hni (fun h' e hm => ?_) (by show 0 ≤ sizeLine; exact Nat.zero_le _)
  exact mk_of I hm r h (I.hok.gone hm.new)
theorem ms_raise (F : ExcBaseFacts B newId initId bmB) (q : PySem.W.excIn X.K C bmB newId = true) (gC : X.mg x = some (.ref C)) (kC : PySem.W.keepIn X.K (.ref C) = true) (r : Raises X (.ref C)) (tk : Takes X Wx) (hc : X.calm = true := by rfl) (hg : Gl X x := by rfl)
    (hdb : (x == ("__debug__" : Str)) = false := by decide) : PSm X Wx (.Raise (some (.Call (.Name x p) [] [] pos)) none pos') (sRaise x) := by
  refine (ps_raise hc tk (pmk_own0 F q gC kC r hg hdb)).mimp fun D0 σ H ⟨ws, B0, s, e, h⟩ => ?_
  exact h σ ws H C gC (Le.refl _ _ _) e
end
end Pm
namespace Pm
open PySem PySem.Spec PyProof.Rows L2

/-! ### what is walked -/
def JOk (K : PySem.W.Frag) (ws : Wa) (B : Addr → Prop) (J : It) (items : List D) (H : Hp) : Prop :=
  ∀ i, (∀ d, items[i]? = some d → J.go i H ∧ ∀ x H', J.yld i H x H' → Grow H H' ∧ DR K ws B H' x d) ∧ (items.length ≤ i → J.stop i H)
abbrev In := S → Res (List D)
def tIm (K : PySem.W.Frag) (mg : Str → Option Value) (Wx : WX) (f : In) : TI := fun σ H R => ∃ ws B0 s, Env K ws B0 s σ H ∧ runAt K mg Wx ws B0 s σ H (f s) fun ws1 s1 items H1 =>
  ∀ J, (∀ ws' (B' : Addr → Prop) s' σ' H', (∀ a, B' a → B0 a ∨ H1 a = none) → Le ws1 (Own s1 σ) H1 ws' (Own s' σ') H' → (∀ a, Bad ws' B' s' σ' a → H' a ≠ none) → JOk K ws' (Bad ws' B' s' σ') J items H') → R J H1
abbrev PIm (X : Cx) (Wx : WX) (tg iter : Expr) (f : In) : Prop := PI X tg iter (tIm X.K X.mg Wx f)
theorem _root_.L2.PI.mimp {X : Cx} {tg e : Expr} {t t' : TI} (h : PI X tg e t) (f : ∀ σ H Q, t' σ H Q → t σ H Q) : PI X tg e t' := ⟨fun pins s σ H Q I q => h.run pins s σ H Q I (f _ _ _ q)⟩
theorem _root_.L2.PI.orm {X : Cx} {tg e : Expr} {t t' : TI} (h : PI X tg e t) (h' : PI X tg e t') : PI X tg e (fun σ H R => t σ H R ∨ t' σ H R) := ⟨fun pins s σ H Q I q => q.elim (h.run pins s σ H Q I) (h'.run pins s σ H Q I)⟩
/-- the items of a list, a tuple -/
def itemsD : D → Option (List D)
  | .tup l => some l
  | .lst l => some l
  | .scr l => some (l.map D.int)
  | .str x => some (x.cps.toList.map fun c => .str ⟨#[c]⟩)
  | _ => none
def iOf (f : Dn) : In := fun s => (f s).bind fun d s1 => (fz d s1).bind fun d' s2 => Res.opt (itemsD d') s2
section
variable {K : PySem.W.Frag} {ws ws' : Wa} {B0 B' : Addr → Prop} {s s' : S} {σ σ' : L2.St} {H H' : Hp}
theorem bad_more (hB : ∀ a, B' a → B0 a ∨ H a = none) (l : Le ws (Own s σ) H ws' (Own s' σ') H') : ∀ a, Bad ws' B' s' σ' a → Bad ws B0 s σ a ∨ H a = none := fun a h => by
  rcases h with h | h | h
  · exact (l.new a h).imp .inl id
  · exact (hB a h).imp (fun z => .inr (.inl z)) id
  · exact (l.own a h).imp (fun z => .inr (.inr z)) id
theorem DR.more {v : V} {d : D} (hB : ∀ a, B' a → B0 a ∨ H a = none) (l : Le ws (Own s σ) H ws' (Own s' σ') H') (h : DR K ws (Bad ws B0 s σ) H v d) : DR K ws' (Bad ws' B' s' σ') H' v d := h.keep l.wle l.kp (bad_more hB l)
theorem DRs.more {v : List V} {d : List D} (hB : ∀ a, B' a → B0 a ∨ H a = none) (l : Le ws (Own s σ) H ws' (Own s' σ') H') (h : DRs K ws (Bad ws B0 s σ) H v d) : DRs K ws' (Bad ws' B' s' σ') H' v d := h.keep l.wle l.kp (bad_more hB l)
theorem jok_tup {B : Addr → Prop} {a : Addr} {vs : List V} {l : List D} (h : SqT K H a vs) (r : DRs K ws B H vs l) : JOk K ws B (Itt K a) l H := fun i => by
  refine ⟨fun d hd => ?_, fun hi => ⟨vs, h, by rw [r.length]; exact hi⟩⟩
  obtain ⟨v, h1, h2⟩ := r.get hd
  refine ⟨⟨vs, v, h, h1⟩, fun x H' hy => ?_⟩
  obtain ⟨rfl, hy⟩ := hy
  have := hy vs h
  rw [h1] at this
  cases this
  exact ⟨Grow.refl _, h2⟩
theorem jok_lst {B : Addr → Prop} {a : Addr} {vs : List V} {l : List D} (h : SqL K H a vs) (r : DRs K ws B H vs l) : JOk K ws B (Itl K a) l H := fun i => by
  refine ⟨fun d hd => ?_, fun hi => ⟨vs, h, by rw [r.length]; exact hi⟩⟩
  obtain ⟨v, h1, h2⟩ := r.get hd
  refine ⟨⟨vs, v, h, h1⟩, fun x H' hy => ?_⟩
  obtain ⟨rfl, hy⟩ := hy
  have := hy vs h
  rw [h1] at this
  cases this
  exact ⟨Grow.refl _, h2⟩
theorem jok_str {B : Addr → Prop} (x : Str) : JOk K ws B (Its x) (x.cps.toList.map fun c => .str ⟨#[c]⟩) H := fun i => by
  refine ⟨fun d hd => ?_, fun hi => (show x.cps.size ≤ i by simpa using hi)⟩
  rw [List.getElem?_map] at hd
  cases q : x.cps.toList[i]? with
  | none => rw [q] at hd; cases hd
  | some c =>
    rw [q] at hd
    cases hd
    have hi : i < x.cps.size := by have := (List.getElem?_eq_some_iff.mp q).1; simpa using this
    refine ⟨hi, fun y H' hy => ?_⟩
    obtain ⟨rfl, c', h1, rfl⟩ := hy
    have e : x.cps[i]? = some c := by rw [← Array.getElem?_toList]; exact q
    rw [e] at h1
    cases h1
    exact ⟨Grow.refl _, .str _⟩
theorem jok_rng {B : Addr → Prop} (lo c : Int) (n : Nat) : JOk K ws B (Itc lo c n) ((List.range n).map fun k => .int (lo + (k : Nat) * c)) H := fun i => by
  refine ⟨fun d hd => ?_, fun hi => (show n ≤ i by simpa using hi)⟩
  rw [List.getElem?_map] at hd
  cases q : (List.range n)[i]? with
  | none => rw [q] at hd; cases hd
  | some k =>
    rw [q] at hd
    cases hd
    obtain ⟨h1, h2⟩ := List.getElem?_eq_some_iff.mp q
    simp at h1 h2
    subst h2
    refine ⟨h1, fun y H' hy => ?_⟩
    obtain ⟨rfl, rfl⟩ := hy
    exact ⟨Grow.refl _, .int _⟩
end
section
variable {X : Cx} {Wx : WX} {tg e a b c : Expr} {pos p : Pos}
/-- for x in e: e a list, a tuple, a text -/
theorem mi_of {f : Dn} (he : PEm X Wx e f) : PIm X Wx tg e (iOf f) := by
  refine (((pi_list he).orm (pi_tup he)).orm (pi_str he)).mimp fun σ H R ⟨ws, B0, s, e, h⟩ => ?_
  have key : ∀ (T : TI) , (∀ (ws1 : Wa) (s1 : S) (d : D) (H1 : Hp), True) → True := fun _ _ => trivial
  -- the data decides which
  cases q : f s with
  | bad => unfold iOf at h; rw [q] at h; exact h.elim
  | ex c s1 =>
    refine .inl (.inl ⟨ws, B0, s, e, ?_⟩)
    unfold iOf at h
    rw [q] at h ⊢
    exact h
  | ok d s1 =>
    unfold iOf at h
    rw [q] at h
    simp only [bind_ok] at h
    have go : ∀ (k : Wa → S → D → Hp → Prop), (∀ ws1 H1, Le ws (Own s σ) H ws1 (Own s1 σ) H1 → Env X.K ws1 B0 s1 σ H1 → runAt X.K X.mg Wx ws1 B0 s1 σ H1 ((Pm.fz d s1).bind fun d' s2 => Res.opt (itemsD d') s2) _ → k ws1 s1 d H1) → runAt X.K X.mg Wx ws B0 s σ H (f s) k := fun k hk => by
      rw [q]
      exact fun ws1 H1 l1 e1 => hk ws1 H1 l1 e1 (runAt.le l1 h)
    cases qf : Pm.fz d s1 with
    | bad => rw [qf] at h; exact h.elim
    | ex c s2 => exact (fz_noex qf).elim
    | ok d' s2 =>
      rw [qf] at h
      simp only [bind_ok] at h
      cases d' with
      | tup l =>
        refine .inl (.inr ⟨ws, B0, s, e, go _ fun ws1 H1 l1 e1 h1 v hv => ?_⟩)
        obtain ⟨l2, e2, r2⟩ := fz_ok e1 hv qf
        rw [qf] at h1
        have h2 := runAt.le l2 h1
        cases r2 with
        | tup t r =>
          refine ⟨_, rfl, ⟨_, t.sq⟩, runAt.here e2 h2 _ fun ws' B' s' σ' H' hB l hd => jok_tup (Tp.keep l.kp (bad_more hB l) t).sq (r.more hB l)⟩
      | lst l =>
        refine .inl (.inl ⟨ws, B0, s, e, go _ fun ws1 H1 l1 e1 h1 v hv => ?_⟩)
        obtain ⟨l2, e2, r2⟩ := fz_ok e1 hv qf
        rw [qf] at h1
        have h2 := runAt.le l2 h1
        cases r2 with
        | lst n t r =>
          refine ⟨_, rfl, ⟨_, .inl (.inl t)⟩, runAt.here e2 h2 _ fun ws' B' s' σ' H' hB l hd => jok_lst (.inl (.inl (l.kp _ _ t n))) (r.more hB l)⟩
      | scr l =>
        refine .inl (.inl ⟨ws, B0, s, e, go _ fun ws1 H1 l1 e1 h1 v hv => ?_⟩)
        obtain ⟨l2, e2, r2⟩ := fz_ok e1 hv qf
        rw [qf] at h1
        have h2 := runAt.le l2 h1
        cases r2 with
        | scr _ t =>
          refine ⟨_, rfl, ⟨_, t.sq⟩, runAt.here e2 h2 _ fun ws' B' s' σ' H' hB l hd => jok_lst (Lp.keep l.kp (bad_more hB l) t).sq (DRs.ints _)⟩
      | str x =>
        refine .inr ⟨ws, B0, s, e, go _ fun ws1 H1 l1 e1 h1 v hv => ?_⟩
        obtain ⟨l2, e2, r2⟩ := fz_ok e1 hv qf
        rw [qf] at h1
        have h2 := runAt.le l2 h1
        cases r2
        exact ⟨x, rfl, runAt.here e2 h2 _ fun ws' B' s' σ' H' hB l hd => jok_str x⟩
      | _ => exact h.elim
/-- range -/
def rngL (i j c : Int) : Option (List D) :=
  if -(2 ^ 62) ≤ i ∧ i < 2 ^ 62 ∧ -(2 ^ 62) ≤ j ∧ j < 2 ^ 62 ∧ c = 1 then some ((List.range (j - i).toNat).map fun k => .int (i + (k : Nat) * c))
  else if -(2 ^ 62) ≤ i ∧ i < 2 ^ 62 ∧ -(2 ^ 62) ≤ j ∧ j < 2 ^ 62 ∧ c = -1 then some ((List.range (i - j).toNat).map fun k => .int (i + (k : Nat) * c)) else none
def iRng1m (g : An) : In := fun s => (g s).bind fun ds s1 => match ds with
  | [.int j] => Res.opt (rngL 0 j 1) s1
  | _ => .bad
def iRng2m (g : An) : In := fun s => (g s).bind fun ds s1 => match ds with
  | [.int i, .int j] => Res.opt (rngL i j 1) s1
  | _ => .bad
theorem er_int {K : PySem.W.Frag} {ws : Wa} {B0 : Addr → Prop} {s : S} {σ : L2.St} {H : Hp} {v : V} {i : Int} (h : ER K ws B0 s σ H v (.int i)) : v = .int i := by
  rcases h with ⟨_, z, _⟩ | h
  · cases z
  · cases h; rfl
theorem itr_itc (lo : Int) (n : Nat) : Itr lo n = Itc lo 1 n := by
  unfold Itr Itc
  congr 1
  funext i H x H'
  simp
theorem rngL1 {i j : Int} {l : List D} (h : rngL i j 1 = some l) : (-(2 ^ 62) ≤ i ∧ i < 2 ^ 62 ∧ -(2 ^ 62) ≤ j ∧ j < 2 ^ 62) ∧ l = (List.range (j - i).toNat).map fun k => .int (i + (k : Nat) * 1) := by
  unfold rngL at h
  split at h
  · rename_i hc; cases h; exact ⟨⟨hc.1, hc.2.1, hc.2.2.1, hc.2.2.2.1⟩, rfl⟩
  · split at h
    · rename_i hc; exact absurd hc.2.2.2.2 (by decide)
    · cases h
theorem mi_range1 {g : An} (hm : X.mg "range" = none) (ha : PAm X Wx [a] g) (hg : Gl X "range" := by rfl) (hs : starEach [a] X.env = [(false, eval a X.env)] := by rfl) : PIm X Wx tg (.Call (.Name "range" p) [a] [] pos) (iRng1m g) := by
  refine (pi_range1 hg hm ha hs).mimp fun σ H R ⟨ws, B0, s, e, h⟩ => ?_
  refine ⟨ws, B0, s, e, (runAt.bind h).mono fun ws1 s1 ds H1 l1 e1 h1 vs hv => ?_⟩
  split at h1
  · rename_i j
    cases hv with
    | cons hj hn =>
      cases hn
      have := er_int hj
      subst this
      cases q : rngL 0 j 1 with
      | none => rw [q] at h1; exact h1.elim
      | some l =>
        rw [q] at h1
        obtain ⟨hc, rfl⟩ := rngL1 q
        refine ⟨j, rfl, hc.2.2.1, hc.2.2.2, ?_⟩
        rw [itr_itc]
        refine runAt.here e1 h1 _ fun ws' B' s' σ' H' hB l hd => ?_
        have := jok_rng (K := X.K) (ws := ws') (B := Bad ws' B' s' σ') (H := H') 0 1 j.toNat
        rw [Int.sub_zero]
        exact this
  · exact h1.elim
theorem mi_range2 {g : An} (hm : X.mg "range" = none) (ha : PAm X Wx [a, b] g) (hg : Gl X "range" := by rfl) (hs : starEach [a, b] X.env = [(false, eval a X.env), (false, eval b X.env)] := by rfl) (hs2 : starEach [b] X.env = [(false, eval b X.env)] := by rfl) : PIm X Wx tg (.Call (.Name "range" p) [a, b] [] pos) (iRng2m g) := by
  refine (pi_range2 hg hm ha hs hs2).mimp fun σ H R ⟨ws, B0, s, e, h⟩ => ?_
  refine ⟨ws, B0, s, e, (runAt.bind h).mono fun ws1 s1 ds H1 l1 e1 h1 vs hv => ?_⟩
  split at h1
  · rename_i i j
    cases hv with
    | cons hi hn =>
      cases hn with
      | cons hj hn =>
        cases hn
        have := er_int hi
        subst this
        have := er_int hj
        subst this
        cases q : rngL i j 1 with
        | none => rw [q] at h1; exact h1.elim
        | some l =>
          rw [q] at h1
          obtain ⟨hc, rfl⟩ := rngL1 q
          refine ⟨i, j, rfl, hc, ?_⟩
          rw [itr_itc]
          exact runAt.here e1 h1 _ fun ws' B' s' σ' H' hB l hd => jok_rng i 1 (j - i).toNat
  · exact h1.elim
end
end Pm
namespace Pm
open PySem PySem.Spec PyProof.Rows L2

/-! ### targets -/
abbrev Gn := D → S → Option S
abbrev Gns := List D → S → Option S
/-- all slots but those at ts stand -/
def Out (ts : List Nat) (σ σ' : L2.St) : Prop := σ'.length = σ.length ∧ ∀ j, j ∉ ts → σ'[j]? = σ[j]?
section
variable (K : PySem.W.Frag) (ws : Wa) (B0 : Addr → Prop) (s : S) (σ : L2.St) (H : Hp) (ts : List Nat) (Q : L2.St → Hp → Prop)
def gAt (r : Option S) : Prop := match r with
  | some s' => ∀ σ' ws' H', Out ts σ σ' → Le ws (Own s σ) H ws' (Own s' σ') H' → Env K ws' B0 s' σ' H' → Q σ' H'
  | _ => False
end
def tGm (K : PySem.W.Frag) (ts : List Nat) (p : Gn) : TG := fun v σ H Q => ∃ ws B0 s d, Env K ws B0 s σ H ∧ DR K ws (Bad ws B0 s σ) H v d ∧ gAt K ws B0 s σ H ts Q (p d s)
def tGsm (K : PySem.W.Frag) (ts : List Nat) (p : Gns) : TGs := fun vs σ H Q => ∃ ws B0 s ds, Env K ws B0 s σ H ∧ DRs K ws (Bad ws B0 s σ) H vs ds ∧ gAt K ws B0 s σ H ts Q (p ds s)
abbrev PGm (X : Cx) (tg : Expr) (ts : List Nat) (p : Gn) : Prop := PG X tg (tGm X.K ts p)
abbrev PGsm (X : Cx) (tg : List Expr) (ts : List Nat) (p : Gns) : Prop := PGs X tg (tGsm X.K ts p)
theorem _root_.L2.PG.mimp {X : Cx} {tg : Expr} {t t' : TG} (h : PG X tg t) (f : ∀ v σ H Q, t' v σ H Q → t v σ H Q) : PG X tg t' := ⟨fun pins s σ H v u Q I r q => h.run pins s σ H v u Q I r (f _ _ _ _ q)⟩
theorem _root_.L2.PGs.mimp {X : Cx} {tg : List Expr} {t t' : TGs} (h : PGs X tg t) (f : ∀ v σ H Q, t' v σ H Q → t v σ H Q) : PGs X tg t' := ⟨fun pins s σ H v u Q I r q => h.run pins s σ H v u Q I r (f _ _ _ _ q)⟩
def pName (i : Nat) : Gn := fun d s => some (put i (.va d) s)
def pNil : Gns := fun ds s => match ds with
  | [] => some s
  | _ => none
def pCons (p : Gn) (q : Gns) : Gns := fun ds s => match ds with
  | d :: r => (p d s).bind fun s1 => q r s1
  | [] => none
def pTup (n : Nat) (q : Gns) : Gn := fun d s => match d with
  | .tup l => if l.length = n then q l s else none
  | _ => none
section
variable {X : Cx} {e : Expr} {es : List Expr} {pos : Pos} {x : Str} {i : Nat}
theorem Out.refl (ts : List Nat) (σ : L2.St) : Out ts σ σ := ⟨rfl, fun _ _ => rfl⟩
theorem Out.trans {ts us : List Nat} {σ σ' σ'' : L2.St} (a : Out ts σ σ') (b : Out us σ' σ'') : Out (ts ++ us) σ σ'' := ⟨b.1.trans a.1, fun j h => by
  simp only [List.mem_append, not_or] at h
  rw [b.2 j h.2, a.2 j h.1]⟩
theorem mg_name (hN : X.N.Nodup) (hi : X.N[i]? = some x) (hx : L2.Loc X.env.scope x) (hf : X.fn x = true ∨ X.env.scope.names.lookup x = some .local := by first | exact .inl rfl | exact .inr rfl | assumption) : PGm X (.Name x pos) [i] (pName i) := by
  refine (pg_name hN hi hx hf).mimp fun v σ H Q ⟨ws, B0, s, d, e, r, h⟩ => ?_
  obtain ⟨l, e'⟩ := e.put (i := i) r
  exact h _ _ _ ⟨List.length_set, fun j hj => List.getElem?_set_ne (fun z => hj (by simp [z]))⟩ l e'
theorem mgs_nil : PGsm X [] [] pNil := by
  refine pgs_nil.mimp fun vs σ H Q ⟨ws, B0, s, ds, e, r, h⟩ => ?_
  cases r with
  | nil => exact ⟨rfl, h _ _ _ (Out.refl _ _) (Le.refl _ _ _) e⟩
  | cons _ _ => exact h.elim
theorem mgs_cons {p : Gn} {q : Gns} {ts us : List Nat} (h1 : PGm X e ts p) (h2 : PGsm X es us q) (hs : (assignEach (e :: es) X.env).map (·.2) = assign e X.env :: (assignEach es X.env).map (·.2) := by rfl) : PGsm X (e :: es) (ts ++ us) (pCons p q) := by
  refine (pgs_cons h1 h2 hs).mimp fun vs σ H Q ⟨ws, B0, s, ds, e, r, h⟩ => ?_
  cases r with
  | nil => exact h.elim
  | @cons v vs d ds r1 r2 =>
    have h : gAt X.K ws B0 s σ H (ts ++ us) Q ((p d s).bind fun s1 => q ds s1) := h
    refine ⟨v, vs, rfl, ws, B0, s, d, e, r1, ?_⟩
    cases qp : p d s with
    | none => rw [qp] at h; exact h.elim
    | some s1 =>
      rw [qp] at h
      intro σ1 ws1 H1 o1 l1 e1
      refine ⟨ws1, B0, s1, ds, e1, r2.le l1, ?_⟩
      simp only [Option.bind_some] at h
      cases qq : q ds s1 with
      | none => rw [qq] at h; exact h.elim
      | some s2 =>
        rw [qq] at h
        exact fun σ2 ws2 H2 o2 l2 e2 => h σ2 ws2 H2 (o1.trans o2) (l1.trans l2) e2
theorem mg_tup {q : Gns} {ts : List Nat} {n k : Nat} (hc : X.calm = true) (h : PGsm X es ts q) (hn : (assignEach es X.env).length = n := by rfl) (hst : (assignEach es X.env).findIdx? (·.1) = none := by rfl) : PGm X (.Tuple es k pos) ts (pTup n q) := by
  refine (pg_tup hc h hn hst).mimp fun v σ H Q ⟨ws, B0, s, d, e, r, h⟩ => ?_
  cases r with
  | tup t r =>
    unfold pTup at h
    simp only at h
    split at h
    · rename_i hl
      exact ⟨_, _, rfl, t.sq, by rw [r.length]; exact hl, ws, B0, s, _, e, r, h⟩
    · exact h.elim
  | _ => exact h.elim
end

/-! ### target = e -/
def sAsg (p : Gn) (f : Dn) : Sn := fun s => (f s).bind fun d s1 => (fz d s1).bind fun d' s2 => match p d' s2 with
  | some s3 => .ok .next s3
  | none => .bad
section
variable {X : Cx} {Wx : WX} {e tg iter c : Expr} {pos : Pos} {body : List Stmt}
theorem ms_asg {f : Dn} {p : Gn} {ts : List Nat} (he : PEm X Wx e f) (hg : PGm X tg ts p) (hs : swapsWithSole [tg] e pos.line X.env = pure false := by rfl) (hw : swappedStores [tg] e X.env = pure none := by rfl)
    (h1 : (assignEach [tg] X.env).map (·.2) = [assign tg X.env] := by rfl) : PSm X Wx (.Assign [tg] e pos) (sAsg p f) := by
  refine (ps_asg he hg hs hw h1).mimp fun D0 σ H ⟨ws, B0, s, e, h⟩ => ?_
  refine ⟨ws, B0, s, e, (stAt.bind h).mono fun ws1 s1 d H1 l1 e1 h1 v hv => ?_⟩
  obtain ⟨d', s2, l2, e2, r2, h2⟩ := stAt.fz e1 hv h1
  refine ⟨ws1, B0, s2, d', e2, r2, ?_⟩
  cases q : p d' s2 with
  | none => rw [q] at h2; exact h2.elim
  | some s3 =>
    rw [q] at h2
    exact fun σ' ws' H' o l e' => h2 σ' ws' H' l e'

/-! ### for -/
def forL (p : Gn) (b : Sn) : List D → Sn
  | [] => fun s => .ok .next s
  | x :: xs => fun s => match p x s with
    | some s1 => (b s1).bind fun fl s2 => match fl with
      | .next => forL p b xs s2
      | .cont => forL p b xs s2
      | .brk => .ok .next s2
      | .ret d => .ok (.ret d) s2
    | none => .bad
def sFor (it : In) (p : Gn) (b : Sn) : Sn := fun s => (it s).bind fun xs s1 => forL p b xs s1
theorem ms_for {it : In} {p : Gn} {b : Sn} {ts : List Nat} (hp : PassesOwn (model X.prog X.w) X.A X.env X.xe) (hi : PIm X Wx tg iter it) (hg : PGm X tg ts p) (hb : PSsm X Wx body b) (hc : X.calm = true := by rfl) (hs : ∀ x, foldedSetIterable iter X.env x = pure x := by intro _; rfl) :
    PSm X Wx (.For tg iter body [] pos) (sFor it p b) := by
  refine (ps_for hp hc hi hg hb hs).mimp fun D0 σ H ⟨ws, B0, s, e, h⟩ => ?_
  refine ⟨ws, B0, s, e, (stAt.bind h).mono fun ws1 s1 items H1 l1 e1 h1 J hJ => ?_⟩
  refine ⟨fun i m σ' H' => m = items.length - i ∧ ∃ ws' s', Le ws1 (Own s1 σ) H1 ws' (Own s' σ') H' ∧ Env X.K ws' B0 s' σ' H' ∧ stAt X.K X.mg Wx ws' B0 s' σ' H' (forL p b (items.drop i) s') D0,
    ⟨items.length, rfl, ws1, s1, Le.refl _ _ _, e1, h1⟩, ?_⟩
  rintro i m σ' H' ⟨rfl, ws', s', l, e', h'⟩
  have hj := hJ ws' B0 s' σ' H' (fun a z => .inl z) l e'.bad i
  by_cases hi : i < items.length
  · have hd : items[i]? = some items[i] := by simp [hi]
    have hdr : items.drop i = items[i] :: items.drop (i + 1) := (List.drop_eq_getElem_cons hi)
    rw [hdr] at h'
    obtain ⟨hgo, hy⟩ := hj.1 _ hd
    refine .inr ⟨hgo, _, fun σ2 H2 z => z, fun x H2 hyl => ?_⟩
    obtain ⟨gr, hx⟩ := hy x H2 hyl
    refine ⟨ws', B0, s', items[i], e'.grow gr, hx, ?_⟩
    unfold forL at h'
    cases qp : p items[i] s' with
    | none => rw [qp] at h'; exact h'.elim
    | some s2 =>
      rw [qp] at h'
      simp only at h'
      intro σ2 ws2 H3 o2 l2 e2
      have l02 := (gr.le ws' (Own s' σ')).trans l2
      refine ⟨ws2, B0, s2, e2, ?_⟩
      cases qb : b s2 with
      | bad => rw [qb] at h'; exact h'.elim
      | ex c s3 =>
        rw [qb] at h'
        exact stAt.le l02 h'
      | ok fl s3 =>
        rw [qb] at h'
        simp only [bind_ok] at h'
        intro σ3 ws3 H4 l3 e3
        have l03 := l02.trans l3
        cases fl with
        | next => exact ⟨items.length - (i + 1), by omega, rfl, ws3, s3, l.trans l03, e3, stAt.le l03 h'⟩
        | cont => exact ⟨items.length - (i + 1), by omega, rfl, ws3, s3, l.trans l03, e3, stAt.le l03 h'⟩
        | brk => exact h' _ _ _ l03 e3
        | ret d => exact h' _ _ _ l03 e3
  · refine .inl ⟨hj.2 (by omega), ?_⟩
    rw [List.drop_of_length_le (by omega)] at h'
    exact stAt.here e' h'

/-! ### while -/
def whileL (c : Bn) (b : Sn) : Nat → Sn
  | 0 => fun _ => .bad
  | n + 1 => fun s => (c s).bind fun k s1 => if k = true then (b s1).bind fun fl s2 => match fl with
    | .next => whileL c b n s2
    | .cont => whileL c b n s2
    | .brk => .ok .next s2
    | .ret d => .ok (.ret d) s2 else .ok .next s1
theorem ms_while {cf : Bn} {b : Sn} (n : Nat) (hp : PassesOwn (model X.prog X.w) X.A X.env X.xe) (hc : PTm X Wx c cf) (hb : PSsm X Wx body b) : PSm X Wx (.While c body [] pos) (whileL cf b n) := by
  refine (ps_while hp hc hb).mimp fun D0 σ H ⟨ws, B0, s, e, h⟩ => ?_
  refine ⟨fun m σ' H' => ∃ ws' s', Env X.K ws' B0 s' σ' H' ∧ stAt X.K X.mg Wx ws' B0 s' σ' H' (whileL cf b m s') D0, ⟨n, ws, s, e, h⟩, ?_⟩
  rintro m σ' H' ⟨ws', s', e', h'⟩
  cases m with
  | zero => exact h'.elim
  | succ m =>
    refine ⟨ws', B0, s', e', (stAt.bind h').mono fun ws1 s1 k H1 l1 e1 h1 => ?_⟩
    cases k with
    | false => exact stAt.here e1 h1
    | true =>
      rw [if_pos rfl] at h1
      show ∃ N : L2.St → Hp → Prop, _
      refine ⟨_, fun σ2 H2 z => z, ws1, B0, s1, e1, ?_⟩
      cases qb : b s1 with
      | bad => rw [qb] at h1; exact h1.elim
      | ex c s3 => rw [qb] at h1; exact h1
      | ok fl s3 =>
        rw [qb] at h1
        simp only [bind_ok] at h1
        intro σ3 ws3 H4 l3 e3
        cases fl with
        | next => exact ⟨m, by omega, ws3, s3, e3, stAt.le l3 h1⟩
        | cont => exact ⟨m, by omega, ws3, s3, e3, stAt.le l3 h1⟩
        | brk => exact h1 _ _ _ l3 e3
        | ret d => exact h1 _ _ _ l3 e3
end
end Pm
namespace Pm
open PySem PySem.Spec PyProof.Rows L2

/-! ### comprehensions -/
abbrev W0 : WX := fun _ _ _ _ => False
def wipeS : List Nat → S → S
  | [], s => s
  | v :: vs, s => put v .no (wipeS vs s)
def backS : List Nat → S → S → S
  | [], _, s1 => s1
  | v :: vs, s0, s1 => put v (s0.sl.getD v .no) (backS vs s0 s1)
def noOw (vs : List Nat) (s : S) : Bool := vs.all fun j => match s.sl[j]? with
  | some (.ow _) => false
  | _ => true
def Res.ne {α : Type} (r : Res α) : Res α := match r with
  | .ex _ _ => .bad
  | r => r
@[simp] theorem ne_ok {α : Type} (a : α) (s : S) : (Res.ok a s).ne = .ok a s := rfl
@[simp] theorem ne_bad {α : Type} : (Res.bad : Res α).ne = .bad := rfl
@[simp] theorem ne_ex {α : Type} (c : Str) (s : S) : (Res.ex c s : Res α).ne = .bad := rfl
def compL (vs : List Nat) (p : Gn) (c : Bn) (f : Dn) : List D → S → Res (List D)
  | [], s => .ok [] s
  | x :: xs, s => if noOw vs s = true then (match p x (wipeS vs s) with
      | none => .bad
      | some s1 => (c s1).ne.bind fun k s2 => if k = true then (f s2).ne.bind fun d s3 => (fz d s3).bind fun d' s4 => (compL vs p c f xs (backS vs s s4)).bind fun r s5 => .ok (d' :: r) s5
          else compL vs p c f xs (backS vs s s2)) else .bad
def cL (vs : List Nat) (it : In) (p : Gn) (c : Bn) (f : Dn) : An := fun s => (it s).bind fun items s1 => (compL vs p c f items s1).bind fun ds s2 => if ds.length ≤ sizeLine then .ok ds s2 else .bad
def dComp (vs : List Nat) (it : In) (p : Gn) (c : Bn) (f : Dn) : Dn := fun s => (cL vs it p c f s).bind fun ds s1 => .ok (.lst ds) s1
def bYes : Bn := fun s => .ok true s
theorem wipeS_w (vs : List Nat) (s : S) : (wipeS vs s).w = s.w := by
  induction vs with
  | nil => rfl
  | cons v vs ih => exact ih
theorem wipeS_len (vs : List Nat) (s : S) : (wipeS vs s).sl.length = s.sl.length := by
  induction vs with
  | nil => rfl
  | cons v vs ih => show ((wipeS vs s).sl.set v .no).length = _; rw [List.length_set]; exact ih
theorem backS_w (vs : List Nat) (s0 s : S) : (backS vs s0 s).w = s.w := by
  induction vs with
  | nil => rfl
  | cons v vs ih => exact ih
theorem backS_len (vs : List Nat) (s0 s : S) : (backS vs s0 s).sl.length = s.sl.length := by
  induction vs with
  | nil => rfl
  | cons v vs ih => show ((backS vs s0 s).sl.set v _).length = _; rw [List.length_set]; exact ih
theorem wipeS_get {vs : List Nat} {s : S} {j : Nat} {x : Sl} : (wipeS vs s).sl[j]? = some x → (j ∈ vs ∧ x = .no) ∨ (j ∉ vs ∧ s.sl[j]? = some x) := by
  induction vs with
  | nil => exact fun h => .inr ⟨by simp, h⟩
  | cons v vs ih =>
    intro h
    rcases get_set (show ((wipeS vs s).sl.set v .no)[j]? = some x from h) with ⟨rfl, z, _⟩ | ⟨n, h⟩
    · exact .inl ⟨by simp, z⟩
    · rcases ih h with ⟨m, z⟩ | ⟨m, z⟩
      · exact .inl ⟨by simp [m], z⟩
      · exact .inr ⟨by simp [n, m], z⟩
theorem backS_get {vs : List Nat} {s0 s : S} {j : Nat} {x : Sl} : (backS vs s0 s).sl[j]? = some x → (j ∈ vs ∧ x = s0.sl.getD j .no) ∨ (j ∉ vs ∧ s.sl[j]? = some x) := by
  induction vs with
  | nil => exact fun h => .inr ⟨by simp, h⟩
  | cons v vs ih =>
    intro h
    rcases get_set (show ((backS vs s0 s).sl.set v _)[j]? = some x from h) with ⟨rfl, z, _⟩ | ⟨n, h⟩
    · exact .inl ⟨by simp, z⟩
    · rcases ih h with ⟨m, z⟩ | ⟨m, z⟩
      · exact .inl ⟨by simp [m], z⟩
      · exact .inr ⟨by simp [n, m], z⟩
theorem wipe_not {σ : L2.St} {vs : List Nat} {j : Nat} (h : j ∉ vs) : (wipe σ vs)[j]? = σ[j]? := wipe_out h
section
variable {K : PySem.W.Frag} {ws ws' : Wa} {B0 : Addr → Prop} {s s' : S} {σ σ2 : L2.St} {H H' : Hp} {vs : List Nat}
theorem own_wipe {a : Addr} (h : Own (wipeS vs s) (wipe σ vs) a) : Own s σ a := by
  obtain ⟨j, d, h1, h2⟩ := h
  rcases wipeS_get h1 with ⟨_, z⟩ | ⟨n, h1⟩
  · cases z
  · rw [wipe_not n] at h2
    exact ⟨j, d, h1, h2⟩
theorem Env.wipe (e : Env K ws B0 s σ H) (hv : noOw vs s = true) : Le ws (Own s σ) H ws (Own (wipeS vs s) (L2.wipe σ vs)) H ∧ Env K ws B0 (wipeS vs s) (L2.wipe σ vs) H := by
  have l : Le ws (Own s σ) H ws (Own (wipeS vs s) (L2.wipe σ vs)) H := ⟨ws.le_refl, fun _ h => .inl h, fun a h => .inl (own_wipe h), fun _ _ h _ _ => h, fun _ h => h⟩
  refine ⟨l, ⟨by rw [wipeS_len, wipe_length]; exact e.len, by rw [wipeS_w]; exact e.wr, e.wd, e.dom, fun j d h => ?_, fun j d h => ?_, fun j k d d' a h1 h2 h3 h4 => ?_⟩⟩
  · rcases wipeS_get h with ⟨_, z⟩ | ⟨n, h⟩
    · cases z
    · obtain ⟨v, q1, q2⟩ := e.va j d h
      exact ⟨v, by rw [wipe_not n]; exact q1, q2.le l⟩
  · rcases wipeS_get h with ⟨_, z⟩ | ⟨n, h⟩
    · cases z
    · obtain ⟨a, q1, q2, q3⟩ := e.ow j d h
      exact ⟨a, by rw [wipe_not n]; exact q1, q2.le l fun _ z => z, q3⟩
  · rcases wipeS_get h1 with ⟨_, z⟩ | ⟨n1, h1⟩
    · cases z
    · rcases wipeS_get h2 with ⟨_, z⟩ | ⟨n2, h2⟩
      · cases z
      · rw [wipe_not n1] at h3
        rw [wipe_not n2] at h4
        exact e.uq j k d d' a h1 h2 h3 h4
theorem Env.back (e : Env K ws B0 s σ H) (hv : noOw vs s = true) (l : Le ws (Own s σ) H ws' (Own s' σ2) H') (e' : Env K ws' B0 s' σ2 H') (hw : L2.wipe σ2 vs = L2.wipe σ vs) (hl : σ2.length = σ.length) :
    Le ws (Own s σ) H ws' (Own (backS vs s s') σ) H' ∧ Env K ws' B0 (backS vs s s') σ H' ∧ Le ws' (Own s' σ2) H' ws' (Own (backS vs s s') σ) H' := by
  have noW : ∀ {j : Nat} {d : D}, j ∈ vs → s.sl.getD j .no ≠ .ow d := fun {j d} hj z => by
    unfold noOw at hv
    have := List.all_eq_true.mp hv j hj
    rw [List.getD_eq_getElem?_getD] at z
    cases q : s.sl[j]? with
    | none => rw [q] at z; cases z
    | some x =>
      rw [q] at z this
      have z : x = .ow d := z
      subst z
      cases this
  have out : ∀ {j : Nat}, j ∉ vs → σ2[j]? = σ[j]? := fun n => by rw [← wipe_not n (σ := σ2), hw, wipe_not n]
  have hO : ∀ a, Own (backS vs s s') σ a → Own s' σ2 a := fun a ⟨j, d, h1, h2⟩ => by
    rcases backS_get h1 with ⟨m, z⟩ | ⟨n, h1⟩
    · exact absurd z.symm (noW m)
    · exact ⟨j, d, h1, by rw [out n]; exact h2⟩
  have l' : Le ws (Own s σ) H ws' (Own (backS vs s s') σ) H' := ⟨l.wle, l.new, fun a h => l.own a (hO a h), l.keep, l.ex⟩
  have l2 : Le ws' (Own s' σ2) H' ws' (Own (backS vs s s') σ) H' := ⟨ws'.le_refl, fun _ h => .inl h, fun a h => .inl (hO a h), fun _ _ h _ _ => h, fun _ h => h⟩
  refine ⟨l', ⟨by rw [backS_len, e'.len, hl], by rw [backS_w]; exact e'.wr, e'.wd, e'.dom, fun j d h => ?_, fun j d h => ?_, fun j k d d' a h1 h2 h3 h4 => ?_⟩, l2⟩
  · rcases backS_get h with ⟨m, z⟩ | ⟨n, h⟩
    · have hj : s.sl[j]? = some (.va d) := by
        rw [List.getD_eq_getElem?_getD] at z
        cases q : s.sl[j]? with
        | none => rw [q] at z; cases z
        | some x => rw [q] at z; have z : Sl.va d = x := z; rw [z]
      obtain ⟨v, q1, q2⟩ := e.va j d hj
      exact ⟨v, q1, q2.le l'⟩
    · obtain ⟨v, q1, q2⟩ := e'.va j d h
      exact ⟨v, by rw [← out n]; exact q1, q2.le l2⟩
  · rcases backS_get h with ⟨m, z⟩ | ⟨n, h⟩
    · exact absurd z.symm (noW m)
    · obtain ⟨a, q1, q2, q3⟩ := e'.ow j d h
      exact ⟨a, by rw [← out n]; exact q1, q2.le l2 fun _ z => z, q3⟩
  · rcases backS_get h1 with ⟨m, z⟩ | ⟨n1, h1⟩
    · exact absurd z.symm (noW m)
    · rcases backS_get h2 with ⟨m, z⟩ | ⟨n2, h2⟩
      · exact absurd z.symm (noW m)
      · exact e'.uq j k d d' a h1 h2 (by rw [out n1]; exact h3) (by rw [out n2]; exact h4)
/-- a further address is out of bounds for a while -/
theorem Env.more {B' : Addr → Prop} (e : Env K ws B0 s σ H) (hB : ∀ a, B' a → B0 a ∨ (H' a ≠ none ∧ H a = none)) (g : Grow H H') : Env K ws B' s σ H' := by
  have hb : ∀ a, B' a → B0 a ∨ H a = none := fun a z => (hB a z).imp id fun q => q.2
  have l : Le ws (Own s σ) H ws (Own s σ) H' := g.le ws _
  refine ⟨e.len, e.wr.grow g, fun a h z => e.wd a h (g.ex a z), fun a h z => ?_, fun j d h => ?_, fun j d h => ?_, e.uq⟩
  · rcases hB a h with q | q
    · exact e.dom a q (g.ex a z)
    · exact q.1 z
  · obtain ⟨v, q1, q2⟩ := e.va j d h
    exact ⟨v, q1, q2.more hb l⟩
  · obtain ⟨a, q1, q2, q3, q4⟩ := e.ow j d h
    refine ⟨a, q1, ?_, q3, fun z => ?_⟩
    · cases d <;> first
        | exact q2.elim
        | (obtain ⟨vs, r1, r2⟩ := q2; exact ⟨vs, g _ _ r1, r2.more hb l⟩)
        | (obtain ⟨vs, r1, r2, r3⟩ := q2; exact ⟨vs, g _ _ r1, r2, r3.more hb l⟩)
    · rcases hb a z with q | q
      · exact q4 q
      · exact q2.there q
/-- an address that is out of bounds is written -/
theorem upd_ex {H : Hp} {a : Addr} {o : HO} (h : H a ≠ none) : ∀ b, upd H a o b = none → H b = none := fun b z => by
  by_cases q : b = a
  · subst q; rw [upd_same] at z; cases z
  · rw [upd_ne q] at z; exact z
theorem Env.setB {a : Addr} {o : HO} (e : Env K ws B0 s σ H) (hb : B0 a) (hn : ¬ ws.has a) : Env K ws B0 s σ (upd H a o) := by
  have ha := e.dom a hb
  have hk : ∀ b u, H b = some u → ¬ Bad ws B0 s σ b → upd H a o b = some u := fun b u h n => by rw [upd_ne (fun z => n (by rw [z]; exact .inr (.inl hb)))]; exact h
  have hx := upd_ex (o := o) ha
  refine ⟨e.len, ?_, fun b h z => e.wd b h (hx b z), fun b h z => e.dom b h (hx b z), fun j d h => ?_, fun j d h => ?_, e.uq⟩
  · have hw := e.wr
    unfold WR at hw ⊢
    split
    · trivial
    · rename_i l t e1 e2
      rw [e1, e2] at hw
      rw [upd_ne (fun z => hn (by rw [← z]; exact e2))]
      exact hw
    · rename_i h1 h2
      split at hw
      · rename_i e1 e2; exact h1 e1 e2
      · rename_i e1 e2; exact h2 _ _ e1 e2
      · exact hw
  · obtain ⟨v, q1, q2⟩ := e.va j d h
    exact ⟨v, q1, q2.keep ws.le_refl hk fun _ z => .inl z⟩
  · obtain ⟨b, q1, q2, q3, q4⟩ := e.ow j d h
    have hba : b ≠ a := fun z => q4 (by rw [z]; exact hb)
    refine ⟨b, q1, ?_, q3, q4⟩
    cases d <;> first
      | exact q2.elim
      | (obtain ⟨vs, r1, r2⟩ := q2; exact ⟨vs, by rw [upd_ne hba]; exact r1, r2.keep ws.le_refl hk fun _ z => .inl z⟩)
      | (obtain ⟨vs, r1, r2, r3⟩ := q2; exact ⟨vs, by rw [upd_ne hba]; exact r1, r2, r3.keep ws.le_refl hk fun _ z => .inl z⟩)
theorem Env.fewer {B' : Addr → Prop} (e : Env K ws B' s σ H) (hB : ∀ a, B0 a → B' a) : Env K ws B0 s σ H := by
  have hb : ∀ a, Bad ws B0 s σ a → Bad ws B' s σ a ∨ H a = none := fun a z => .inl (z.imp id fun q => q.imp (hB a) id)
  refine ⟨e.len, e.wr, e.wd, fun a h => e.dom a (hB a h), fun j d h => ?_, fun j d h => ?_, e.uq⟩
  · obtain ⟨v, q1, q2⟩ := e.va j d h
    exact ⟨v, q1, q2.keep ws.le_refl (fun _ _ z _ => z) hb⟩
  · obtain ⟨a, q1, q2, q3, q4⟩ := e.ow j d h
    refine ⟨a, q1, ?_, q3, fun z => q4 (hB a z)⟩
    cases d <;> first
      | exact q2.elim
      | (obtain ⟨vs, r1, r2⟩ := q2; exact ⟨vs, r1, r2.keep ws.le_refl (fun _ _ z _ => z) hb⟩)
      | (obtain ⟨vs, r1, r2, r3⟩ := q2; exact ⟨vs, r1, r2, r3.keep ws.le_refl (fun _ _ z _ => z) hb⟩)
/-- an object that was out of bounds becomes slot i's own -/
theorem Env.adopt {ws0 : Wa} {s0 : S} {σ0 : L2.St} {H0 : Hp} {D0 : Addr} {o : HO} {d : D} {i : Nat} (e : Env K ws (fun a => B0 a ∨ a = D0) s σ H) (hn : H0 D0 = none) (ho : H D0 = some o) (nb : ¬ Bad ws B0 s σ D0) (l : Le ws0 (Own s0 σ0) H0 ws (Own s σ) H)
    (hd : ON K ws (Bad ws (fun a => B0 a ∨ a = D0) s σ) H o d) : Le ws0 (Own s0 σ0) H0 ws (Own (Pm.put i (.ow d) s) (σ.set i (some (.ref D0)))) H ∧ Env K ws B0 (Pm.put i (.ow d) s) (σ.set i (some (.ref D0))) H := by
  have hO : ∀ a, Own (Pm.put i (.ow d) s) (σ.set i (some (.ref D0))) a → Own s σ a ∨ a = D0 := fun a ⟨j, dj, h1, h2⟩ => by
    rcases get_set h1 with ⟨rfl, z, hl⟩ | ⟨n, h1⟩
    · rw [List.getElem?_set_self (by rw [← e.len]; exact hl)] at h2
      cases h2; exact .inr rfl
    · rw [List.getElem?_set_ne (Ne.symm n)] at h2
      exact .inl ⟨j, dj, h1, h2⟩
  have hb : ∀ a, Bad ws B0 (Pm.put i (.ow d) s) (σ.set i (some (.ref D0))) a → Bad ws (fun a => B0 a ∨ a = D0) s σ a ∨ H a = none := fun a z => by
    rcases z with z | z | z
    · exact .inl (.inl z)
    · exact .inl (.inr (.inl (.inl z)))
    · rcases hO a z with z | z
      · exact .inl (.inr (.inr z))
      · exact .inl (.inr (.inl (.inr z)))
  have kp : ∀ {vs : List V} {ds : List D}, DRs K ws (Bad ws (fun a => B0 a ∨ a = D0) s σ) H vs ds → DRs K ws (Bad ws B0 (Pm.put i (.ow d) s) (σ.set i (some (.ref D0)))) H vs ds := fun r => r.keep ws.le_refl (fun _ _ z _ => z) hb
  refine ⟨⟨l.wle, l.new, fun a z => ?_, l.keep, l.ex⟩, ⟨?_, e.wr, e.wd, fun a h => e.dom a (.inl h), fun j dj hj => ?_, fun j dj hj => ?_, fun j k dj dk a hj hk ha hb' => ?_⟩⟩
  · rcases hO a z with z | z
    · exact l.own a z
    · rw [z]; exact .inr hn
  · rw [set_len, List.length_set]; exact e.len
  · rcases get_set hj with ⟨rfl, z, hl⟩ | ⟨n, hj⟩
    · cases z
    · obtain ⟨u, h1, h2⟩ := e.va j dj hj
      exact ⟨u, by rw [List.getElem?_set_ne (Ne.symm n)]; exact h1, h2.keep ws.le_refl (fun _ _ z _ => z) hb⟩
  · rcases get_set hj with ⟨rfl, z, hl⟩ | ⟨n, hj⟩
    · cases z
      refine ⟨D0, by rw [List.getElem?_set_self (by rw [← e.len]; exact hl)], ?_, fun z => nb (.inl z), fun z => nb (.inr (.inl z))⟩
      cases d <;> first
        | exact hd.elim
        | (obtain ⟨vs, rfl, r2⟩ := hd; exact ⟨vs, ho, kp r2⟩)
        | (obtain ⟨vs, rfl, r2, r3⟩ := hd; exact ⟨vs, ho, r2, kp r3⟩)
    · obtain ⟨a, h1, h2, h3, h4⟩ := e.ow j dj hj
      refine ⟨a, by rw [List.getElem?_set_ne (Ne.symm n)]; exact h1, ?_, h3, fun z => h4 (.inl z)⟩
      cases dj <;> first
        | exact h2.elim
        | (obtain ⟨vs, r1, r2⟩ := h2; exact ⟨vs, r1, kp r2⟩)
        | (obtain ⟨vs, r1, r2, r3⟩ := h2; exact ⟨vs, r1, r2, kp r3⟩)
  · have old : ∀ {q : Nat} {dq : D}, s.sl[q]? = some (.ow dq) → σ[q]? ≠ some (some (.ref D0)) := fun {q dq} h1 h2 => nb (.inr (.inr ⟨q, dq, h1, h2⟩))
    rcases get_set hj with ⟨rfl, z, hl⟩ | ⟨n1, hj'⟩
    · rw [List.getElem?_set_self (by rw [← e.len]; exact hl)] at ha
      cases ha
      rcases get_set hk with ⟨rfl, z, _⟩ | ⟨n2, hk'⟩
      · rfl
      · rw [List.getElem?_set_ne (Ne.symm n2)] at hb'
        exact absurd hb' (old hk')
    · rw [List.getElem?_set_ne (Ne.symm n1)] at ha
      rcases get_set hk with ⟨rfl, z, hl⟩ | ⟨n2, hk'⟩
      · rw [List.getElem?_set_self (by rw [← e.len]; exact hl)] at hb'
        cases hb'
        exact absurd ha (old hj')
      · rw [List.getElem?_set_ne (Ne.symm n2)] at hb'
        exact e.uq j k dj dk a hj' hk' ha hb'
theorem out_wipe {ts : List Nat} (ho : Out ts (L2.wipe σ vs) σ2) (hts : ∀ j ∈ ts, j ∈ vs) : L2.wipe σ2 vs = L2.wipe σ vs := by
  apply List.ext_getElem?
  intro j
  by_cases hj : j ∈ vs
  · have len : (L2.wipe σ2 vs).length = (L2.wipe σ vs).length := by rw [wipe_length, ho.1]
    cases q : (L2.wipe σ2 vs)[j]? with
    | none =>
      rw [List.getElem?_eq_none_iff] at q
      exact (List.getElem?_eq_none_iff.mpr (by omega)).symm
    | some x =>
      cases q2 : (L2.wipe σ vs)[j]? with
      | none =>
        rw [List.getElem?_eq_none_iff] at q2
        have := (List.getElem?_eq_some_iff.mp q).1
        omega
      | some y =>
        cases x with
        | some v => exact absurd hj (wipe_some q).2
        | none =>
          cases y with
          | some v => exact absurd hj (wipe_some q2).2
          | none => rfl
  · rw [wipe_not hj, wipe_not hj, ho.2 j (fun z => hj (hts j z)), wipe_not hj]
end
section
variable {X : Cx}
abbrev PTsm (X : Cx) (ifs : List Expr) (f : Bn) : Prop := PTs X ifs (tT X.K X.mg W0 f)
theorem _root_.L2.PTs.mimp {X : Cx} {e : List Expr} {t t' : TT} (h : PTs X e t) (f : ∀ σ H Q, t' σ H Q → t σ H Q) : PTs X e t' := ⟨fun pins s σ H Q I q => h.run pins s σ H Q I (f _ _ _ q)⟩
theorem mts_nil : PTsm X [] bYes := pts_nil.mimp fun σ H Q ⟨ws, B0, s, e, h⟩ => runAt.here e h
theorem mts_one {c : Expr} {f : Bn} (h : PTm X W0 c f) : PTsm X [c] f := pts_one h
end
theorem runAt_ne {α : Type} {K : PySem.W.Frag} {mg : Str → Option Value} {Wx : WX} {ws : Wa} {B0 : Addr → Prop} {s : S} {σ : L2.St} {H : Hp} {r : Res α} {k : Wa → S → α → Hp → Prop} (a : α) (s' : S) (q : r.ne = .ok a s') (h : ∀ ws' H', Le ws (Own s σ) H ws' (Own s' σ) H' → Env K ws' B0 s' σ H' → k ws' s' a H') : runAt K mg Wx ws B0 s σ H r k := by
  cases r with
  | ok b s1 => cases q; exact h
  | ex c s1 => cases q
  | bad => cases q
theorem compL_noex (vs : List Nat) (p : Gn) (c : Bn) (f : Dn) : ∀ (l : List D) (s s' : S) (x : Str), compL vs p c f l s ≠ .ex x s' := by
  intro l
  induction l with
  | nil => intro s s' x h; cases h
  | cons d l ih =>
    intro s s' x h
    unfold compL at h
    split at h
    · split at h
      · cases h
      · rename_i s1 _
        cases q1 : c s1 with
        | bad => rw [q1] at h; cases h
        | ex y s2 => rw [q1] at h; cases h
        | ok k s2 =>
          rw [q1] at h
          simp only [ne_ok, bind_ok] at h
          split at h
          · cases q2 : f s2 with
            | bad => rw [q2] at h; cases h
            | ex y s2 => rw [q2] at h; cases h
            | ok d2 s3 =>
              rw [q2] at h
              simp only [ne_ok, bind_ok] at h
              cases q3 : fz d2 s3 with
              | bad => rw [q3] at h; cases h
              | ex y s2 => exact fz_noex q3
              | ok d3 s4 =>
                rw [q3] at h
                simp only [bind_ok] at h
                cases q4 : compL vs p c f l (backS vs s s4) with
                | bad => rw [q4] at h; cases h
                | ex y s2 => exact ih _ _ _ q4
                | ok r s5 => rw [q4] at h; cases h
          · exact ih _ _ _ h
    · cases h
section
variable {X : Cx} {Wx : WX} {elt tg iter : Expr} {ifs : List Expr} {scope : Scope} {own : List (Str × Nat)} {pos : Pos} {it : In} {p : Gn} {c : Bn} {f : Dn} {ts : List Nat}
/-- the list of a comprehension, for the reading tLc -/
theorem comp_go {K : PySem.W.Frag} {mg : Str → Option Value} {vs : List Nat} (hts : ∀ j ∈ ts, j ∈ vs) {ws1 : Wa} {B0 : Addr → Prop} {s1 sF : S} {σ : L2.St} {H1 : Hp} {items ds : List D} {J : It} {Q : VK}
    (e1 : Env K ws1 B0 s1 σ H1) (hF : compL vs p c f items s1 = .ok ds sF) (hz : ds.length ≤ sizeLine)
    (hJ : ∀ ws' (B' : Addr → Prop) s' σ' H', (∀ a, B' a → B0 a ∨ H1 a = none) → Le ws1 (Own s1 σ) H1 ws' (Own s' σ') H' → (∀ a, Bad ws' B' s' σ' a → H' a ≠ none) → JOk K ws' (Bad ws' B' s' σ') J items H')
    (D0 : Addr) (hD : H1 D0 = none)
    (fin : ∀ ws' H' vl, H' D0 = some (.lst vl) → ¬ ws'.has D0 → Le ws1 (Own s1 σ) H1 ws' (Own sF σ) H' → Env K ws' (fun a => B0 a ∨ a = D0) sF σ H' → DRs K ws' (Bad ws' (fun a => B0 a ∨ a = D0) sF σ) H' vl ds → Q (.ref D0) H') :
    ∃ W : Nat → Nat → Hp → Prop, (∃ m, W 0 m (upd H1 D0 (.lst []))) ∧ ∀ i m H, W i m H →
      (J.stop i H ∧ Q (.ref D0) H) ∨ (J.go i H ∧ ∃ Nx : Hp → Prop, (∀ H', Nx H' → ∃ m', m' < m ∧ W (i + 1) m' H') ∧ ∀ x H', J.yld i H x H' → tGm K ts p x (L2.wipe σ vs) H' fun σ2 H2 => L2.wipe σ2 vs = L2.wipe σ vs ∧ tT K mg W0 c σ2 H2 fun b H3 =>
        if b = true then tE K mg W0 f σ2 H3 fun y H4 => ∃ acc, H4 D0 = some (.lst acc) ∧ acc.length < sizeLine ∧ Nx (upd H4 D0 (.lst (acc ++ [y]))) else Nx H3) := by
  have gD := Grow.new (o := .lst []) hD
  have hB' : ∀ a, (B0 a ∨ a = D0) → B0 a ∨ (upd H1 D0 (.lst []) a ≠ none ∧ H1 a = none) := fun a z => z.imp id fun q => by subst q; exact ⟨sm upd_same, hD⟩
  refine ⟨fun i m H => m = items.length - i ∧ ∃ ws s as vl, Le ws1 (Own s1 σ) H1 ws (Own s σ) H ∧ Env K ws (fun a => B0 a ∨ a = D0) s σ H ∧ ¬ ws.has D0 ∧ H D0 = some (.lst vl) ∧ DRs K ws (Bad ws (fun a => B0 a ∨ a = D0) s σ) H vl as ∧
      ∃ r, compL vs p c f (items.drop i) s = .ok r sF ∧ ds = as ++ r,
    ⟨items.length, rfl, ws1, s1, [], [], gD.le _ _, e1.more hB' gD, fun z => e1.wd D0 z hD, upd_same, .nil, ds, hF, rfl⟩, ?_⟩
  rintro i m H ⟨rfl, ws, s, as, vl, l, e, nD, hDl, racc, r, hr, hds⟩
  have hj := hJ ws (fun a => B0 a ∨ a = D0) s σ H (fun a z => z.imp id fun q => by rw [q]; exact hD) l e.bad i
  have hlen := racc.length
  have nO : ¬ Own s σ D0 := fun ⟨j, dj, z1, z2⟩ => by
    obtain ⟨a, y1, y2, y3, y4⟩ := e.ow j dj z1
    rw [z2] at y1
    cases y1
    exact y4 (.inr rfl)
  by_cases hi : i < items.length
  · have hd : items[i]? = some items[i] := by simp [hi]
    rw [List.drop_eq_getElem_cons hi] at hr
    obtain ⟨hgo, hy⟩ := hj.1 _ hd
    unfold compL at hr
    split at hr
    · rename_i hno
      cases qp : p items[i] (wipeS vs s) with
      | none => rw [qp] at hr; cases hr
      | some s2 =>
        rw [qp] at hr
        simp only at hr
        refine .inr ⟨hgo, fun H' => ∃ m', m' < items.length - i ∧ (m' = items.length - (i + 1) ∧ ∃ ws s as vl, Le ws1 (Own s1 σ) H1 ws (Own s σ) H' ∧ Env K ws (fun a => B0 a ∨ a = D0) s σ H' ∧ ¬ ws.has D0 ∧ H' D0 = some (.lst vl) ∧ DRs K ws (Bad ws (fun a => B0 a ∨ a = D0) s σ) H' vl as ∧
            ∃ r, compL vs p c f (items.drop (i + 1)) s = .ok r sF ∧ ds = as ++ r), fun H' z => z, fun x H' hyl => ?_⟩
        obtain ⟨gr, hx⟩ := hy x H' hyl
        obtain ⟨lw, ew⟩ := (e.grow gr).wipe hno
        have l0 : Le ws (Own s σ) H ws (Own (wipeS vs s) (L2.wipe σ vs)) H' := (gr.le ws (Own s σ)).trans lw
        refine ⟨ws, (fun a => B0 a ∨ a = D0), wipeS vs s, items[i], ew, hx.le lw, ?_⟩
        rw [qp]
        intro σ2 ws2 H2 o2 l2 e2
        have hw2 := out_wipe o2 hts
        have hl2 : σ2.length = σ.length := by rw [o2.1, wipe_length]
        have lt2 := l0.trans l2
        refine ⟨hw2, ws2, (fun a => B0 a ∨ a = D0), s2, e2, ?_⟩
        cases q1 : (c s2).ne with
        | bad => rw [q1] at hr; cases hr
        | ex y z => cases hc : c s2 <;> rw [hc] at q1 <;> cases q1
        | ok b s3 =>
          rw [q1] at hr
          simp only [bind_ok] at hr
          refine runAt_ne b s3 q1 fun ws3 H3 l3 e3 => ?_
          have lt3 := lt2.trans l3
          cases b with
          | true =>
            rw [if_pos rfl] at hr
            show tE K mg W0 f σ2 H3 _
            refine ⟨ws3, (fun a => B0 a ∨ a = D0), s3, e3, ?_⟩
            cases q2 : (f s3).ne with
            | bad => rw [q2] at hr; cases hr
            | ex y z => cases hc : f s3 <;> rw [hc] at q2 <;> cases q2
            | ok d s4 =>
              rw [q2] at hr
              simp only [bind_ok] at hr
              refine runAt_ne d s4 q2 fun ws4 H4 l4 e4 v hv => ?_
              cases q3 : Pm.fz d s4 with
              | bad => rw [q3] at hr; cases hr
              | ex y z => exact (fz_noex q3).elim
              | ok d' s5 =>
                rw [q3] at hr
                simp only [bind_ok] at hr
                obtain ⟨l5, e5, r5⟩ := fz_ok e4 hv q3
                have lt5 := (lt3.trans l4).trans l5
                obtain ⟨lb, eb, lc⟩ := e.back hno lt5 e5 hw2 hl2
                cases q4 : compL vs p c f (items.drop (i + 1)) (backS vs s s5) with
                | bad => rw [q4] at hr; cases hr
                | ex y z => exact absurd q4 (compL_noex _ _ _ _ _ _ _ _)
                | ok r' s6 =>
                  rw [q4] at hr
                  cases hr
                  have lall := l.trans lb
                  have nD4 : ¬ ws4.has D0 := fun z => by
                    rcases lt5.new D0 z with q | q
                    · exact nD q
                    · rw [hDl] at q; cases q
                  have hD4 : H4 D0 = some (.lst vl) := lt5.keep D0 _ hDl nD nO
                  have hall : DRs K ws4 (Bad ws4 (fun a => B0 a ∨ a = D0) (backS vs s s5) σ) H4 (vl ++ [v]) (as ++ [d']) := (racc.le lb).append (.one (r5.le lc))
                  have hk : ∀ b u, H4 b = some u → ¬ Bad ws4 (fun a => B0 a ∨ a = D0) (backS vs s s5) σ b → upd H4 D0 (.lst (vl ++ [v])) b = some u := fun b u h n => by
                    rw [upd_ne (fun z => n (.inr (.inl (.inr z))))]; exact h
                  have hx4 := upd_ex (o := .lst (vl ++ [v])) (sm hD4)
                  refine ⟨vl, hD4, ?_, items.length - (i + 1), by omega, rfl, ws4, backS vs s s5, as ++ [d'], vl ++ [v], ?_, eb.setB (.inr rfl) nD4, nD4, upd_same, hall.keep ws4.le_refl hk fun _ z => .inl z, r', q4, by simp [hds]⟩
                  · rw [hds, List.length_append, List.length_cons] at hz
                    omega
                  · refine ⟨lall.wle, lall.new, lall.own, fun b u h1 h2 h3 => ?_, fun b z => lall.ex b (hx4 b z)⟩
                    rw [upd_ne (fun z => by rw [z, hD] at h1; cases h1)]
                    exact lall.keep b u h1 h2 h3
          | false =>
            rw [if_neg Bool.false_ne_true] at hr
            obtain ⟨lb, eb, lc⟩ := e.back hno lt3 e3 hw2 hl2
            have nD3 : ¬ ws3.has D0 := fun z => by
              rcases lt3.new D0 z with q | q
              · exact nD q
              · rw [hDl] at q; cases q
            exact ⟨items.length - (i + 1), by omega, rfl, ws3, backS vs s s3, as, vl, l.trans lb, eb, nD3, lt3.keep D0 _ hDl nD nO, racc.le lb, r, hr, hds⟩
    · cases hr
  · rw [List.drop_of_length_le (by omega)] at hr
    cases hr
    refine .inl ⟨hj.2 (by omega), ?_⟩
    rw [List.append_nil] at hds
    subst hds
    exact fin ws H vl hDl nD l e racc
theorem lc_go {K : PySem.W.Frag} {mg : Str → Option Value} {vs : List Nat} (hts : ∀ j ∈ ts, j ∈ vs) (σ : L2.St) (H : Hp) (Q : VK) {ws : Wa} {B0 : Addr → Prop} {s : S} (e : Env K ws B0 s σ H)
    (h : match cL vs it p c f s with
      | .ok ds sF => ∀ ws' H' D0 vl, H D0 = none → H' D0 = some (HO.lst vl) → ¬ Bad ws' B0 sF σ D0 → Le ws (Own s σ) H ws' (Own sF σ) H' → Env K ws' (fun a => B0 a ∨ a = D0) sF σ H' → DRs K ws' (Bad ws' (fun a => B0 a ∨ a = D0) sF σ) H' vl ds → Q (.ref D0) H'
      | .ex x s' => ∀ ws' H' C, mg x = some (.ref C) → Le ws (Own s σ) H ws' (Own s' σ) H' → Env K ws' B0 s' σ H' → Wx (.ref C) none σ H'
      | .bad => False) :
    tLc (tIm K mg Wx it) (tGm K ts p) (tT K mg W0 c) (tE K mg W0 f) vs σ H Q := by
  refine ⟨ws, B0, s, e, ?_⟩
  unfold cL at h
  cases qi : it s with
  | bad => rw [qi] at h; exact h.elim
  | ex x s' => rw [qi] at h; exact h
  | ok items s1 =>
    rw [qi] at h
    simp only [bind_ok] at h
    intro ws1 H1 l1 e1 J hJ D0 hD
    cases q : compL vs p c f items s1 with
    | bad => rw [q] at h; exact h.elim
    | ex y s2 => exact absurd q (compL_noex _ _ _ _ _ _ _ _)
    | ok ds sF =>
      rw [q] at h
      simp only [bind_ok] at h
      by_cases hz : ds.length ≤ sizeLine
      · rw [if_pos hz] at h
        refine comp_go hts e1 q hz hJ D0 hD fun ws' H' vl hvl nD l e' r => ?_
        refine h ws' H' D0 vl (l1.ex D0 hD) hvl (fun z => ?_) (l1.trans l) e' r
        rcases z with z | z | ⟨j, dj, z1, z2⟩
        · exact nD z
        · exact e1.dom D0 z hD
        · obtain ⟨a, y1, y2, y3, y4⟩ := e'.ow j dj z1
          rw [z2] at y1
          cases y1
          exact y4 (.inr rfl)
      · rw [if_neg hz] at h; exact h.elim
theorem DRs.small {K : PySem.W.Frag} {ws : Wa} {B0 : Addr → Prop} {s : S} {σ : L2.St} {H : Hp} {D0 : Addr} {vl : List V} {ds : List D} (r : DRs K ws (Bad ws (fun a => B0 a ∨ a = D0) s σ) H vl ds) : DRs K ws (Bad ws B0 s σ) H vl ds :=
  r.keep ws.le_refl (fun _ _ z _ => z) fun a z => .inl (z.imp id fun q => q.imp .inl id)
theorem dComp_go {K : PySem.W.Frag} {mg : Str → Option Value} {vs : List Nat} (hts : ∀ j ∈ ts, j ∈ vs) (σ : L2.St) (H : Hp) (Q : VK) (h : tE K mg Wx (dComp vs it p c f) σ H Q) : tLc (tIm K mg Wx it) (tGm K ts p) (tT K mg W0 c) (tE K mg W0 f) vs σ H Q := by
  obtain ⟨ws, B0, s, e, h⟩ := h
  refine lc_go hts σ H Q e ?_
  unfold dComp at h
  cases q : cL vs it p c f s with
  | bad => rw [q] at h; exact h.elim
  | ex x s' => rw [q] at h; exact h
  | ok ds sF =>
    rw [q] at h
    exact fun ws' H' D0 vl _ hvl nb l e' r => h ws' H' l (e'.fewer fun a z => .inl z) _ (.inr (.lst nb hvl r.small))
/-- [elt for tg in iter if ..] -/
theorem m_lc (hc : X.calm = true) (hN : X.N.Nodup) (hi : PIm X Wx tg iter it) (ok : BlkOk X.N X.env.scope scope own) (hts : ∀ j ∈ ts, j ∈ own.map (·.2))
    (hg : ∀ (s : Shared) (H : Hp) (C : Addr) (cl : List (Str × Addr)) (fp : List Addr), PGm (X.blk s H scope (compEnvC scope cl C X.env) fp) tg ts p) (ht : ∀ (s : Shared) (H : Hp) (C : Addr) (cl : List (Str × Addr)) (fp : List Addr), PTsm (X.blk s H scope (compEnvC scope cl C X.env) fp) ifs c)
    (he : ∀ (s : Shared) (H : Hp) (C : Addr) (cl : List (Str × Addr)) (fp : List Addr), PEm (X.blk s H scope (compEnvC scope cl C X.env) fp) W0 elt f) (hs : ∀ x, foldedSetIterable iter X.env x = pure x := by intro _; rfl) :
    PEm X Wx (.ListComp elt [⟨tg, iter, ifs, 0⟩] scope pos) (dComp (own.map (·.2)) it p c f) :=
  (pe_lc hc hN hi ok hg ht he hs).mimp fun σ H Q h => dComp_go hts σ H Q h
/-- y = [..] on one line, the name a local -/
theorem ms_setLc {i : Nat} {y : Str} {py spos : Pos} (hc : X.calm = true) (hN : X.N.Nodup) (hy : X.N[i]? = some y) (hyl : X.env.scope.names.lookup y = some .local)
    (hsw : swapsWith (.ListComp elt [⟨tg, iter, ifs, 0⟩] scope pos) (some (.Name y py)) spos.line X.env = pure true) (hi : PIm X Wx tg iter it) (ok : BlkOk X.N X.env.scope scope own) (hts : ∀ j ∈ ts, j ∈ own.map (·.2))
    (hg : ∀ (s : Shared) (H : Hp) (C : Addr) (cl : List (Str × Addr)) (fp : List Addr), PGm (X.blk s H scope (compEnvC scope cl C X.env) fp) tg ts p) (ht : ∀ (s : Shared) (H : Hp) (C : Addr) (cl : List (Str × Addr)) (fp : List Addr), PTsm (X.blk s H scope (compEnvC scope cl C X.env) fp) ifs c)
    (he : ∀ (s : Shared) (H : Hp) (C : Addr) (cl : List (Str × Addr)) (fp : List Addr), PEm (X.blk s H scope (compEnvC scope cl C X.env) fp) W0 elt f) (hs : ∀ x, foldedSetIterable iter X.env x = pure x := by intro _; rfl) :
    PSm X Wx (.Assign [.Name y py] (.ListComp elt [⟨tg, iter, ifs, 0⟩] scope pos) spos) (sSet i (dComp (own.map (·.2)) it p c f)) := by
  refine (ps_setLc (g := tGm X.K ts p) (tt := tT X.K X.mg W0 c) (te := tE X.K X.mg W0 f) hc hN hy hyl hsw hi ok hg ht he hs).mimp fun D0 σ H h => ?_
  exact dComp_go hts σ H _ (sSet_go D0 σ H h)
/-- the same, where the slot is to own the list -/
theorem ms_ownLc {i : Nat} {y : Str} {py spos : Pos} (hc : X.calm = true) (hN : X.N.Nodup) (hy : X.N[i]? = some y) (hyl : X.env.scope.names.lookup y = some .local)
    (hsw : swapsWith (.ListComp elt [⟨tg, iter, ifs, 0⟩] scope pos) (some (.Name y py)) spos.line X.env = pure true) (hi : PIm X Wx tg iter it) (ok : BlkOk X.N X.env.scope scope own) (hts : ∀ j ∈ ts, j ∈ own.map (·.2))
    (hg : ∀ (s : Shared) (H : Hp) (C : Addr) (cl : List (Str × Addr)) (fp : List Addr), PGm (X.blk s H scope (compEnvC scope cl C X.env) fp) tg ts p) (ht : ∀ (s : Shared) (H : Hp) (C : Addr) (cl : List (Str × Addr)) (fp : List Addr), PTsm (X.blk s H scope (compEnvC scope cl C X.env) fp) ifs c)
    (he : ∀ (s : Shared) (H : Hp) (C : Addr) (cl : List (Str × Addr)) (fp : List Addr), PEm (X.blk s H scope (compEnvC scope cl C X.env) fp) W0 elt f) (hs : ∀ x, foldedSetIterable iter X.env x = pure x := by intro _; rfl) :
    PSm X Wx (.Assign [.Name y py] (.ListComp elt [⟨tg, iter, ifs, 0⟩] scope pos) spos) (sOwn i (dComp (own.map (·.2)) it p c f)) := by
  refine (ps_setLc (g := tGm X.K ts p) (tt := tT X.K X.mg W0 c) (te := tE X.K X.mg W0 f) hc hN hy hyl hsw hi ok hg ht he hs).mimp fun D1 σ H ⟨ws, B0, s, e, h⟩ => ?_
  refine lc_go hts σ H _ e ?_
  unfold sOwn dComp at h
  cases q : cL (own.map (·.2)) it p c f s with
  | bad => rw [q] at h; exact h.elim
  | ex x s' => rw [q] at h; exact fun ws' H' C hC l e' => h σ ws' H' C hC l e'
  | ok ds sF =>
    rw [q] at h
    simp only [bind_ok] at h
    intro ws' H' D0 vl hn hvl nb l e' r
    obtain ⟨l2, e2⟩ := e'.adopt (i := i) (d := .lst ds) hn hvl nb l ⟨vl, rfl, r⟩
    exact h _ _ _ l2 e2
end
end Pm
namespace Pm
open PySem PySem.Spec PyProof.Rows L2

/-! ### a, b = x, y: values and new objects -/
abbrev Hn := S → Res (List Sl)
def hNil : Hn := fun s => .ok [] s
def hVa (f : Dn) (r : Hn) : Hn := fun s => (f s).bind fun d s1 => (fz d s1).bind fun d' s2 => (r s2).bind fun xs s3 => .ok (.va d' :: xs) s3
def hOw (f : Dn) (r : Hn) : Hn := fun s => (f s).bind fun d s1 => (r s1).bind fun xs s3 => .ok (.ow d :: xs) s3
/-- values by slots' contents; F the new objects in order -/
inductive SRs (K : PySem.W.Frag) (ws : Wa) (B : Addr → Prop) (H : Hp) : List V → List Sl → List Addr → Prop
  | nil : SRs K ws B H [] [] []
  | va {v : V} {d : D} {vs : List V} {xs : List Sl} {F : List Addr} : DR K ws B H v d → SRs K ws B H vs xs F → SRs K ws B H (v :: vs) (.va d :: xs) F
  | ow {p : Addr} {o : HO} {d : D} {vs : List V} {xs : List Sl} {F : List Addr} : H p = some o → ON K ws B H o d → SRs K ws B H vs xs F → SRs K ws B H (.ref p :: vs) (.ow d :: xs) (p :: F)
def hAt (K : PySem.W.Frag) (mg : Str → Option Value) (Wx : WX) (ws : Wa) (B0 : Addr → Prop) (s : S) (σ : L2.St) (H : Hp) (r : Res (List Sl)) (Q : List V → Hp → Prop) : Prop := match r with
  | .ok xs s' => ∀ ws' H' vs F, Le ws (Own s σ) H ws' (Own s' σ) H' → Env K ws' (fun a => B0 a ∨ a ∈ F) s' σ H' → F.Nodup → (∀ a ∈ F, H a = none ∧ ¬ Bad ws' B0 s' σ a) → SRs K ws' (Bad ws' (fun a => B0 a ∨ a ∈ F) s' σ) H' vs xs F → Q vs H'
  | .ex c s' => ∀ ws' H' C, mg c = some (.ref C) → Le ws (Own s σ) H ws' (Own s' σ) H' → Env K ws' B0 s' σ H' → Wx (.ref C) none σ H'
  | .bad => False
def tH (K : PySem.W.Frag) (mg : Str → Option Value) (Wx : WX) (h : Hn) : TA := fun σ H Q => ∃ ws B0 s, Env K ws B0 s σ H ∧ hAt K mg Wx ws B0 s σ H (h s) Q
abbrev PHm (X : Cx) (Wx : WX) (es : List Expr) (h : Hn) : Prop := PA X es (tH X.K X.mg Wx h)
section
variable {K : PySem.W.Frag} {mg : Str → Option Value} {Wx : WX} {ws ws1 : Wa} {B0 : Addr → Prop} {s s1 : S} {σ : L2.St} {H H1 : Hp} {Q : List V → Hp → Prop}
theorem hAt.bind {α : Type} {r : Res α} {g : α → S → Res (List Sl)} (h : hAt K mg Wx ws B0 s σ H (r.bind g) Q) : runAt K mg Wx ws B0 s σ H r (fun ws' s' a H' => hAt K mg Wx ws' B0 s' σ H' (g a s') Q) := by
  cases r with
  | bad => exact h
  | ex c s' => exact h
  | ok a s1 =>
    intro ws1 H1 l1 e1
    simp only [bind_ok] at h
    cases q : g a s1 with
    | bad => rw [q] at h; exact h
    | ex c s2 => rw [q] at h; exact fun ws' H' C hC l e => h ws' H' C hC (l1.trans l) e
    | ok xs s2 => rw [q] at h; exact fun ws' H' vs F l e nd hF r => h ws' H' vs F (l1.trans l) e nd (fun a ha => ⟨l1.ex a (hF a ha).1, (hF a ha).2⟩) r
theorem SRs.mono {B B' : Addr → Prop} {vs : List V} {xs : List Sl} {F : List Addr} (hb : ∀ a, B' a → B a) (h : SRs K ws B H vs xs F) : SRs K ws B' H vs xs F := by
  have kd : ∀ {v d}, DR K ws B H v d → DR K ws B' H v d := fun r => r.keep ws.le_refl (fun _ _ z _ => z) fun a z => .inl (hb a z)
  have kds : ∀ {v d}, DRs K ws B H v d → DRs K ws B' H v d := fun r => r.keep ws.le_refl (fun _ _ z _ => z) fun a z => .inl (hb a z)
  induction h with
  | nil => exact .nil
  | va r _ ih => exact .va (kd r) ih
  | @ow p o d _ _ _ hp r _ ih =>
    refine .ow hp ?_ ih
    cases d <;> first
      | exact r.elim
      | (obtain ⟨vs, r1, r2⟩ := r; exact ⟨vs, r1, kds r2⟩)
      | (obtain ⟨vs, r1, r2, r3⟩ := r; exact ⟨vs, r1, r2, kds r3⟩)
end
section
variable {X : Cx} {Wx : WX} {e : Expr} {es : List Expr}
theorem mh_nil : PHm X Wx [] hNil := pa_nil.mimp fun σ H Q ⟨ws, B0, s, e, h⟩ => h ws H [] [] (Le.refl _ _ _) (e.fewer (B0 := fun a => B0 a ∨ a ∈ ([] : List Addr)) fun a z => z.elim id fun q => nomatch q) List.nodup_nil (fun a z => nomatch z) .nil
theorem mh_va {f : Dn} {r : Hn} (ha : PEm X Wx e f) (hr : PHm X Wx es r) (hs : starEach (e :: es) X.env = (false, eval e X.env) :: starEach es X.env := by rfl) : PHm X Wx (e :: es) (hVa f r) := by
  refine (pa_cons ha hr hs).mimp fun σ H Q ⟨ws, B0, s, e, h⟩ => ?_
  refine ⟨ws, B0, s, e, (hAt.bind h).mono fun ws1 s1 d H1 l1 e1 h1 v hv => ?_⟩
  cases qf : Pm.fz d s1 with
  | bad => rw [qf] at h1; exact h1.elim
  | ex c s2 => exact (fz_noex qf).elim
  | ok d' s2 =>
    rw [qf] at h1
    simp only [bind_ok] at h1
    obtain ⟨l2, e2, r2⟩ := fz_ok e1 hv qf
    refine ⟨ws1, B0, s2, e2, ?_⟩
    cases q : r s2 with
    | bad => rw [q] at h1; exact h1.elim
    | ex c s3 => rw [q] at h1; exact fun ws' H' C hC l e => h1 ws' H' C hC (l2.trans l) e
    | ok xs s3 =>
      rw [q] at h1
      intro ws' H' vs F l e' nd hF sr
      have hb : ∀ a, Bad ws' (fun a => B0 a ∨ a ∈ F) s3 σ a → Bad ws1 B0 s2 σ a ∨ H1 a = none := bad_more (fun a z => z.imp id fun q => (hF a q).1) l
      exact h1 ws' H' (v :: vs) F (l2.trans l) e' nd hF (.va (r2.keep l.wle l.kp hb) sr)
theorem mh_ow {f : Dn} {r : Hn} (ha : PFm X Wx e f) (hr : PHm X Wx es r) (hs : starEach (e :: es) X.env = (false, eval e X.env) :: starEach es X.env := by rfl) : PHm X Wx (e :: es) (hOw f r) := by
  refine (pa_cons ha hr hs).mimp fun σ H Q ⟨ws, B0, s, e, h⟩ => ?_
  refine ⟨ws, B0, s, e, (hAt.bind h).mono fun ws1 s1 d H1 l1 e1 h1 p o hp ho => ?_⟩
  have g := Grow.new (o := o) hp
  have hB : ∀ a, (B0 a ∨ a = p) → B0 a ∨ (upd H1 p o a ≠ none ∧ H1 a = none) := fun a z => z.imp id fun q => by subst q; exact ⟨sm upd_same, hp⟩
  have e2 : Env X.K ws1 (fun a => B0 a ∨ a = p) s1 σ (upd H1 p o) := e1.more hB g
  refine ⟨ws1, (fun a => B0 a ∨ a = p), s1, e2, ?_⟩
  have lg : Le ws1 (Own s1 σ) H1 ws1 (Own s1 σ) (upd H1 p o) := g.le _ _
  cases q : r s1 with
  | bad => rw [q] at h1; exact h1.elim
  | ex c s3 => rw [q] at h1; exact fun ws' H' C hC l e => h1 ws' H' C hC (lg.trans l) (e.fewer fun a z => .inl z)
  | ok xs s3 =>
    rw [q] at h1
    intro ws' H' vs F l e' nd hF sr
    have npF : p ∉ F := fun z => by have := (hF p z).1; rw [upd_same] at this; cases this
    have nws : ¬ ws'.has p := fun z => by
      rcases l.new p z with q | q
      · exact e1.wd p q hp
      · rw [upd_same] at q; cases q
    have nO1 : ¬ Own s1 σ p := fun z => e1.fresh hp (.inr (.inr z))
    have nO : ¬ Own s3 σ p := fun z => by
      rcases l.own p z with q | q
      · exact nO1 q
      · rw [upd_same] at q; cases q
    have nB : ¬ B0 p := fun z => e1.dom p z hp
    have hHp : H' p = some o := l.keep p o upd_same (fun z => e1.wd p z hp) nO1
    refine h1 ws' H' (.ref p :: vs) (p :: F) (lg.trans l) (e'.fewer fun a z => ?_) (List.nodup_cons.mpr ⟨npF, nd⟩) (fun a ha => ?_) (.ow hHp ?_ (sr.mono fun a z => ?_))
    · rcases z with z | z
      · exact .inl (.inl z)
      · rcases List.mem_cons.mp z with z | z
        · exact .inl (.inr z)
        · exact .inr z
    · rcases List.mem_cons.mp ha with z | z
      · subst z
        exact ⟨hp, fun z => z.elim nws fun z => z.elim nB nO⟩
      · obtain ⟨z1, z2⟩ := hF a z
        exact ⟨g.ex a z1, fun q => z2 (q.imp id fun q => q.imp .inl id)⟩
    · have hb : ∀ a, Bad ws' (fun a => B0 a ∨ a ∈ p :: F) s3 σ a → Bad ws1 B0 s1 σ a ∨ H1 a = none := bad_more (fun a z => z.imp id fun q => by
        rcases List.mem_cons.mp q with q | q
        · rw [q]; exact hp
        · exact g.ex a (hF a q).1) (lg.trans l)
      have kp := (lg.trans l).kp (B0 := B0)
      cases d <;> first
        | exact ho.elim
        | (obtain ⟨vs, r1, r2⟩ := ho; exact ⟨vs, r1, r2.keep (lg.trans l).wle kp hb⟩)
        | (obtain ⟨vs, r1, r2, r3⟩ := ho; exact ⟨vs, r1, r2, r3.keep (lg.trans l).wle kp hb⟩)
    · rcases z with z | z | z
      · exact .inl z
      · rcases z with z | z
        · exact .inr (.inl (.inl (.inl z)))
        · rcases List.mem_cons.mp z with z | z
          · exact .inr (.inl (.inl (.inr z)))
          · exact .inr (.inl (.inr z))
      · exact .inr (.inr z)
end
def puts : List Nat → List Sl → S → S
  | i :: is, x :: xs, s => puts is xs (put i x s)
  | _, _, s => s
def setV : List Nat → List V → L2.St → L2.St
  | i :: is, v :: vs, σ => setV is vs (σ.set i (some v))
  | _, _, σ => σ
theorem puts_ok {K : PySem.W.Frag} {ws0 : Wa} {s0 : S} {σ0 : L2.St} {H0 : Hp} {ws : Wa} {B0 : Addr → Prop} {H : Hp} : ∀ (is : List Nat) (vs : List V) (xs : List Sl) (F : List Addr) (s : S) (σ : L2.St), is.length = xs.length → Le ws0 (Own s0 σ0) H0 ws (Own s σ) H → Env K ws (fun a => B0 a ∨ a ∈ F) s σ H → F.Nodup →
    (∀ a ∈ F, H0 a = none ∧ ¬ Bad ws B0 s σ a) → SRs K ws (Bad ws (fun a => B0 a ∨ a ∈ F) s σ) H vs xs F → Le ws0 (Own s0 σ0) H0 ws (Own (puts is xs s) (setV is vs σ)) H ∧ Env K ws B0 (puts is xs s) (setV is vs σ) H
  | [], vs, xs, F, s, σ, hl, l, e, nd, hF, sr => by
    cases sr with
    | nil => exact ⟨l, e.fewer fun a z => .inl z⟩
    | va _ _ => cases hl
    | ow _ _ _ => cases hl
  | i :: is, vs0, xs0, F, s, σ, hl, l, e, nd, hF, sr0 => by
   cases sr0 with
   | nil => cases hl
   | @va v d vs xs _ r sr =>
    obtain ⟨l1, e1⟩ := e.put (i := i) r
    have hb : ∀ a, Bad ws (fun a => B0 a ∨ a ∈ F) (put i (.va d) s) (σ.set i (some v)) a → Bad ws (fun a => B0 a ∨ a ∈ F) s σ a := fun a z => z.imp id fun z => z.imp id fun z => by
      obtain ⟨j, dj, h1, h2⟩ := z
      rcases get_set h1 with ⟨_, z, _⟩ | ⟨n, h1⟩
      · cases z
      · rw [List.getElem?_set_ne (Ne.symm n)] at h2
        exact ⟨j, dj, h1, h2⟩
    refine puts_ok is _ _ _ _ _ (by simpa using hl) (l.trans l1) e1 nd (fun a ha => ⟨(hF a ha).1, fun z => (hF a ha).2 ?_⟩) (sr.mono hb)
    rcases z with z | z | ⟨j, dj, h1, h2⟩
    · exact .inl z
    · exact .inr (.inl z)
    · rcases get_set h1 with ⟨_, z, _⟩ | ⟨n, h1⟩
      · cases z
      · rw [List.getElem?_set_ne (Ne.symm n)] at h2
        exact .inr (.inr ⟨j, dj, h1, h2⟩)
   | @ow p o d vs xs F hp ho sr =>
    obtain ⟨npF, nd'⟩ := List.nodup_cons.mp nd
    obtain ⟨h0, nb⟩ := hF p List.mem_cons_self
    have e' : Env K ws (fun a => (B0 a ∨ a ∈ F) ∨ a = p) s σ H := e.fewer fun a z => by
      rcases z with (z | z) | z
      · exact .inl z
      · exact .inr (List.mem_cons_of_mem _ z)
      · rw [z]; exact .inr List.mem_cons_self
    have nb' : ¬ Bad ws (fun a => B0 a ∨ a ∈ F) s σ p := fun z => by
      rcases z with z | z | z
      · exact nb (.inl z)
      · rcases z with z | z
        · exact nb (.inr (.inl z))
        · exact npF z
      · exact nb (.inr (.inr z))
    have bb : ∀ a, Bad ws (fun a => (B0 a ∨ a ∈ F) ∨ a = p) s σ a → Bad ws (fun a => B0 a ∨ a ∈ p :: F) s σ a := fun a z => z.imp id fun z => z.imp (fun z => by
      rcases z with (z | z) | z
      · exact .inl z
      · exact .inr (List.mem_cons_of_mem _ z)
      · rw [z]; exact .inr List.mem_cons_self) id
    have ho' : ON K ws (Bad ws (fun a => (B0 a ∨ a ∈ F) ∨ a = p) s σ) H o d := by
      cases d <;> first
        | exact ho.elim
        | (obtain ⟨vs, r1, r2⟩ := ho; exact ⟨vs, r1, r2.keep ws.le_refl (fun _ _ z _ => z) fun a z => .inl (bb a z)⟩)
        | (obtain ⟨vs, r1, r2, r3⟩ := ho; exact ⟨vs, r1, r2, r3.keep ws.le_refl (fun _ _ z _ => z) fun a z => .inl (bb a z)⟩)
    obtain ⟨l1, e1⟩ := e'.adopt (i := i) h0 hp nb' l ho'
    have hO : ∀ a, Own (put i (.ow d) s) (σ.set i (some (.ref p))) a → Own s σ a ∨ a = p := fun a ⟨j, dj, h1, h2⟩ => by
      rcases get_set h1 with ⟨rfl, z, hl⟩ | ⟨n, h1⟩
      · rw [List.getElem?_set_self (by rw [← e.len]; exact hl)] at h2
        cases h2; exact .inr rfl
      · rw [List.getElem?_set_ne (Ne.symm n)] at h2
        exact .inl ⟨j, dj, h1, h2⟩
    refine puts_ok is _ _ _ _ _ (by simpa using hl) l1 e1 nd' (fun a ha => ⟨(hF a (List.mem_cons_of_mem _ ha)).1, fun z => ?_⟩) (sr.mono fun a z => ?_)
    · rcases z with z | z | z
      · exact (hF a (List.mem_cons_of_mem _ ha)).2 (.inl z)
      · exact (hF a (List.mem_cons_of_mem _ ha)).2 (.inr (.inl z))
      · rcases hO a z with z | z
        · exact (hF a (List.mem_cons_of_mem _ ha)).2 (.inr (.inr z))
        · rw [z] at ha; exact npF ha
    · rcases z with z | z | z
      · exact .inl z
      · rcases z with z | z
        · exact .inr (.inl (.inl z))
        · exact .inr (.inl (.inr (List.mem_cons_of_mem _ z)))
      · rcases hO a z with z | z
        · exact .inr (.inr z)
        · rw [z]; exact .inr (.inl (.inr List.mem_cons_self))
def sPar (is : List Nat) (h : Hn) : Sn := fun s => (h s).bind fun xs s1 => if is.length = xs.length then .ok .next (puts is xs s1) else .bad
theorem SRs.length {K : PySem.W.Frag} {ws : Wa} {B : Addr → Prop} {H : Hp} {vs : List V} {xs : List Sl} {F : List Addr} (h : SRs K ws B H vs xs F) : vs.length = xs.length := by
  induction h with
  | nil => rfl
  | va _ _ ih => simp [ih]
  | ow _ _ _ ih => simp [ih]
/-- from a statement that sets slots from values -/
theorem sPar_go {K : PySem.W.Frag} {mg : Str → Option Value} {Wx : WX} {is : List Nat} {h : Hn} (D0 : Ends) (σ : L2.St) (H : Hp) (q : tS K mg Wx (sPar is h) D0 σ H) : tH K mg Wx h σ H (fun vs H' => vs.length = is.length ∧ D0.nx (setV is vs σ) H') := by
  obtain ⟨ws, B0, s, e, q⟩ := q
  refine ⟨ws, B0, s, e, ?_⟩
  unfold sPar at q
  cases qh : h s with
  | bad => rw [qh] at q; exact q.elim
  | ex c s1 => rw [qh] at q; exact fun ws' H' C hC l e => q σ ws' H' C hC l e
  | ok xs s1 =>
    rw [qh] at q
    simp only [bind_ok] at q
    intro ws' H' vs F l e' nd hF sr
    split at q
    · rename_i hl
      obtain ⟨l2, e2⟩ := puts_ok _ _ _ _ _ _ hl l e' nd hF sr
      exact ⟨by rw [sr.length]; exact hl.symm, q _ _ _ l2 e2⟩
    · exact q.elim
section
variable {X : Cx} {Wx : WX} {a b c : Expr} {i j l : Nat} {x y z : Str} {px py pz pt pt2 pos : Pos} {kt k2 : Nat} {h : Hn}
theorem ms_par2 (hN : X.N.Nodup) (hi : X.N[i]? = some x) (hj : X.N[j]? = some y) (hij : i ≠ j) (hx : X.env.scope.names.lookup x = some .local) (hy : X.env.scope.names.lookup y = some .local) (ha : PHm X Wx [a, b] h)
    (hw : swappedStores [.Tuple [.Name x px, .Name y py] kt pt] (.Tuple [a, b] k2 pt2) X.env = pure (some [x, y]) := by rfl)
    (hs : swapsWithSole [.Tuple [.Name x px, .Name y py] kt pt] (.Tuple [a, b] k2 pt2) pos.line X.env = pure false := by rfl) (hc : X.calm = true := by rfl) :
    PSm X Wx (.Assign [.Tuple [.Name x px, .Name y py] kt pt] (.Tuple [a, b] k2 pt2) pos) (sPar [i, j] h) := by
  refine (ps_par hc hN hi hj hij hx hy ha hw hs).mimp fun D0 σ H q => ?_
  obtain ⟨ws, B0, s, e, q⟩ := sPar_go D0 σ H q
  refine ⟨ws, B0, s, e, ?_⟩
  cases qh : h s with
  | bad => rw [qh] at q; exact q
  | ex c s1 => rw [qh] at q; exact q
  | ok xs s1 =>
    rw [qh] at q
    intro ws' H' vs F l e' nd hF sr
    obtain ⟨hl, q⟩ := q ws' H' vs F l e' nd hF sr
    match vs, hl with
    | [v, w], _ => exact ⟨v, w, rfl, q⟩
theorem ms_par3 (hN : X.N.Nodup) (hi : X.N[i]? = some x) (hj : X.N[j]? = some y) (hl : X.N[l]? = some z) (hij : i ≠ j) (hil : i ≠ l) (hjl : j ≠ l) (hx : X.env.scope.names.lookup x = some .local) (hy : X.env.scope.names.lookup y = some .local) (hz : X.env.scope.names.lookup z = some .local) (ha : PHm X Wx [a, b, c] h)
    (hw : swappedStores [.Tuple [.Name x px, .Name y py, .Name z pz] kt pt] (.Tuple [a, b, c] k2 pt2) X.env = pure (some [x, y, z]) := by rfl)
    (hs : swapsWithSole [.Tuple [.Name x px, .Name y py, .Name z pz] kt pt] (.Tuple [a, b, c] k2 pt2) pos.line X.env = pure false := by rfl) (hc : X.calm = true := by rfl) :
    PSm X Wx (.Assign [.Tuple [.Name x px, .Name y py, .Name z pz] kt pt] (.Tuple [a, b, c] k2 pt2) pos) (sPar [i, j, l] h) := by
  refine (ps_par3 hc hN hi hj hl hij hil hjl hx hy hz ha hw hs).mimp fun D0 σ H q => ?_
  obtain ⟨ws, B0, s, e, q⟩ := sPar_go D0 σ H q
  refine ⟨ws, B0, s, e, ?_⟩
  cases qh : h s with
  | bad => rw [qh] at q; exact q
  | ex c s1 => rw [qh] at q; exact q
  | ok xs s1 =>
    rw [qh] at q
    intro ws' H' vs F l e' nd hF sr
    obtain ⟨hl, q⟩ := q ws' H' vs F l e' nd hF sr
    match vs, hl with
    | [u, v, w], _ => exact ⟨u, v, w, rfl, q⟩
end
end Pm
namespace Pm
open PySem PySem.Spec PyProof.Rows L2

/-! ### zip, enumerate -/
def zipL : List D → List D → List D
  | x :: xs, y :: ys => .tup [x, y] :: zipL xs ys
  | _, _ => []
theorem zipL_eq : ∀ (xs ys : List D), zipL xs ys = (xs.zip ys).map fun p => .tup [p.1, p.2]
  | [], _ => rfl
  | _ :: _, [] => rfl
  | x :: xs, y :: ys => by simp [zipL, zipL_eq xs ys]
theorem zipL_get {xs ys : List D} {i : Nat} {d : D} (h : (zipL xs ys)[i]? = some d) : ∃ x y, xs[i]? = some x ∧ ys[i]? = some y ∧ d = .tup [x, y] := by
  induction xs generalizing ys i with
  | nil => simp [zipL] at h
  | cons x xs ih =>
    cases ys with
    | nil => simp [zipL] at h
    | cons y ys =>
      cases i with
      | zero => simp [zipL] at h; exact ⟨x, y, rfl, rfl, h.symm⟩
      | succ i => simpa using ih (by simpa [zipL] using h)
theorem zipL_len (xs ys : List D) : (zipL xs ys).length = min xs.length ys.length := by rw [zipL_eq, List.length_map, List.length_zip]
/-- two lists, or two tuples -/
def zipD : D → D → Option (List D)
  | .tup a, .tup b => some (zipL a b)
  | .lst a, .lst b => some (zipL a b)
  | .lst a, .scr b => some (zipL a (b.map D.int))
  | .scr a, .lst b => some (zipL (a.map D.int) b)
  | .scr a, .scr b => some (zipL (a.map D.int) (b.map D.int))
  | _, _ => none
def iZip (g : An) : In := fun s => (g s).bind fun ds s1 => (fzs ds s1).bind fun es s2 => match es with
  | [x, y] => Res.opt (zipD x y) s2
  | _ => .bad
section
variable {K : PySem.W.Frag} {ws : Wa} {B : Addr → Prop} {H : Hp}
theorem dr_pair {T : Addr} {x y : V} {dx dy : D} (hT : H T = none) (hb : ∀ a, B a → H a ≠ none) (hx : DR K ws B H x dx) (hy : DR K ws B H y dy) : DR K ws B (upd H T (.tup [x, y])) (.ref T) (.tup [dx, dy]) :=
  .tup (.inl ⟨fun z => hb T z hT, .inl upd_same⟩) (.cons (hx.grow (Grow.new hT)) (.cons (hy.grow (Grow.new hT)) .nil))
theorem jok_zipT {a b : Addr} {xs ys : List V} {l m : List D} (hb : ∀ a, B a → H a ≠ none) (h : SqT K H a xs) (r : DRs K ws B H xs l) (h' : SqT K H b ys) (r' : DRs K ws B H ys m) : JOk K ws B (RZ.ItzT K a b) (zipL l m) H := fun i => by
  refine ⟨fun d hd => ?_, fun hi => ⟨xs, ys, h, h', ?_⟩⟩
  · obtain ⟨x, y, h1, h2, rfl⟩ := zipL_get hd
    obtain ⟨v, q1, q2⟩ := r.get h1
    obtain ⟨u, q3, q4⟩ := r'.get h2
    refine ⟨⟨xs, ys, v, u, h, h', q1, q3⟩, fun z H' hy => ?_⟩
    obtain ⟨T, x', y', rfl, hT, rfl, f1, f2⟩ := hy
    have e1 := f1 xs h
    have e2 := f2 ys h'
    rw [q1] at e1
    rw [q3] at e2
    cases e1
    cases e2
    exact ⟨Grow.new hT, dr_pair hT hb q2 q4⟩
  · rw [zipL_len] at hi
    rw [r.length, r'.length]
    omega
theorem jok_zipL {a b : Addr} {xs ys : List V} {l m : List D} (hb : ∀ a, B a → H a ≠ none) (h : SqL K H a xs) (r : DRs K ws B H xs l) (h' : SqL K H b ys) (r' : DRs K ws B H ys m) : JOk K ws B (Itz K a b) (zipL l m) H := fun i => by
  refine ⟨fun d hd => ?_, fun hi => ⟨xs, ys, h, h', ?_⟩⟩
  · obtain ⟨x, y, h1, h2, rfl⟩ := zipL_get hd
    obtain ⟨v, q1, q2⟩ := r.get h1
    obtain ⟨u, q3, q4⟩ := r'.get h2
    refine ⟨⟨xs, ys, v, u, h, h', q1, q3⟩, fun z H' hy => ?_⟩
    obtain ⟨T, x', y', rfl, hT, rfl, f1, f2⟩ := hy
    have e1 := f1 xs h
    have e2 := f2 ys h'
    rw [q1] at e1
    rw [q3] at e2
    cases e1
    cases e2
    exact ⟨Grow.new hT, dr_pair hT hb q2 q4⟩
  · rw [zipL_len] at hi
    rw [r.length, r'.length]
    omega
/-- a list's value: its items -/
def lstOf : D → Option (List D)
  | .lst l => some l
  | .scr l => some (l.map D.int)
  | _ => none
theorem dr_lst {v : V} {d : D} {l : List D} (h : DR K ws B H v d) (hl : lstOf d = some l) : ∃ a vs, v = .ref a ∧ Lp K B H a vs ∧ DRs K ws B H vs l := by
  cases h with
  | lst n h r => cases hl; exact ⟨_, _, rfl, .inl ⟨n, .inl h⟩, r⟩
  | scr ns h => cases hl; exact ⟨_, _, rfl, h, DRs.ints ns⟩
  | _ => cases hl
theorem zipD_cases {x y : D} {l : List D} (h : zipD x y = some l) : (∃ a b, x = .tup a ∧ y = .tup b ∧ l = zipL a b) ∨ ∃ a b, lstOf x = some a ∧ lstOf y = some b ∧ l = zipL a b := by
  unfold zipD at h
  split at h <;> cases h
  · exact .inl ⟨_, _, rfl, rfl, rfl⟩
  · exact .inr ⟨_, _, rfl, rfl, rfl⟩
  · exact .inr ⟨_, _, rfl, rfl, rfl⟩
  · exact .inr ⟨_, _, rfl, rfl, rfl⟩
  · exact .inr ⟨_, _, rfl, rfl, rfl⟩
end
section
variable {X : Cx} {Wx : WX} {a b c : Expr} {pos p tpos : Pos} {elts : List Expr} {kk : Nat}
theorem mi_zip {g : An} (hm : X.mg "zip" = none) (ha : PAm X Wx [a, b] g) (hg : Gl X "zip" := by rfl)
    (hs : starEach [a, b] X.env = (false, eval a X.env) :: starEach [b] X.env := by rfl) (hpl : (backTo pos (starEach [b] X.env)).any (·.1) = false := by rfl) : PIm X Wx (.Tuple elts kk tpos) (.Call (.Name "zip" p) [a, b] [] pos) (iZip g) := by
  refine (RZ.pi_zipA hg hm ha hs hpl).mimp fun σ H R ⟨ws, B0, s, e, h⟩ => ?_
  refine ⟨ws, B0, s, e, (runAt.bind h).mono fun ws1 s1 ds H1 l1 e1 h1 vs hv => ?_⟩
  obtain ⟨es, s2, l2, e2, r2, h2⟩ := runAt.fzs e1 hv h1
  split at h2
  · rename_i x y
    cases r2 with
    | cons rx r2 =>
      cases r2 with
      | cons ry r2 =>
        cases r2
        cases q : zipD x y with
        | none => rw [q] at h2; exact h2.elim
        | some l =>
          rw [q] at h2
          rcases zipD_cases q with ⟨xs, ys, rfl, rfl, rfl⟩ | ⟨xs, ys, hx, hy, rfl⟩
          · cases rx with
            | tup t1 r1 =>
              cases ry with
              | tup t2 r2 =>
                exact ⟨_, _, _, _, rfl, .inr ⟨t1.sq, t2.sq, runAt.here e2 h2 _ fun ws' B' s' σ' H' hB l hd => jok_zipT hd (Tp.keep l.kp (bad_more hB l) t1).sq (r1.more hB l) (Tp.keep l.kp (bad_more hB l) t2).sq (r2.more hB l)⟩⟩
          · obtain ⟨a1, vs1, rfl, t1, r1⟩ := dr_lst rx hx
            obtain ⟨a2, vs2, rfl, t2, r2⟩ := dr_lst ry hy
            exact ⟨_, _, _, _, rfl, .inl ⟨t1.sq, t2.sq, runAt.here e2 h2 _ fun ws' B' s' σ' H' hB l hd => jok_zipL hd (Lp.keep l.kp (bad_more hB l) t1).sq (r1.more hB l) (Lp.keep l.kp (bad_more hB l) t2).sq (r2.more hB l)⟩⟩
  · exact h2.elim
end
end Pm
namespace Pm
open PySem PySem.Spec PyProof.Rows L2

/-! ### builtins by name -/
section
variable {X : Cx} {Wx : WX} {a b c e : Expr} {es : List Expr} {pos p p' : Pos} {g : An}
theorem m_len (ha : PAm X Wx [a] g) (hm : X.mg "len" = none) (hg : Gl X "len" := by rfl) (he : starEach [a] X.env = (false, eval a X.env) :: starEach [] X.env := by rfl) : PEm X Wx (.Call (.Name "len" p) [a] [] pos) (dCB lenF g) :=
  m_callB call_len cs_len hg hm PySem.boot_len ha (by decide) (by decide) he rfl
theorem m_abs (ha : PAm X Wx [a] g) (hm : X.mg "abs" = none) (hg : Gl X "abs" := by rfl) (he : starEach [a] X.env = (false, eval a X.env) :: starEach [] X.env := by rfl) : PEm X Wx (.Call (.Name "abs" p) [a] [] pos) (dCB absF g) :=
  m_callB call_abs cs_abs hg hm (by decide +kernel) ha (by decide) (by decide) he rfl
theorem m_sum (hc : X.calm = true) (ha : PAm X Wx [a] g) (hm : X.mg "sum" = none) (hg : Gl X "sum" := by rfl) (he : starEach [a] X.env = (false, eval a X.env) :: starEach [] X.env := by rfl) : PEm X Wx (.Call (.Name "sum" p) [a] [] pos) (dCB sumF g) :=
  m_callB (cr_sum hc) cs_sum hg hm (by decide +kernel) ha (by decide) (by decide) he rfl
theorem m_all (hc : X.calm = true) (ha : PAm X Wx [a] g) (hm : X.mg "all" = none) (hg : Gl X "all" := by rfl) (he : starEach [a] X.env = (false, eval a X.env) :: starEach [] X.env := by rfl) : PEm X Wx (.Call (.Name "all" p) [a] [] pos) (dCB allF g) :=
  m_callB (cr_all hc) cs_all hg hm (by decide +kernel) ha (by decide) (by decide) he rfl
theorem m_any (hc : X.calm = true) (ha : PAm X Wx [a] g) (hm : X.mg "any" = none) (hg : Gl X "any" := by rfl) (he : starEach [a] X.env = (false, eval a X.env) :: starEach [] X.env := by rfl) : PEm X Wx (.Call (.Name "any" p) [a] [] pos) (dCB anyF g) :=
  m_callB (cr_any hc) cs_any hg hm (by decide +kernel) ha (by decide) (by decide) he rfl
theorem m_int1 (ha : PAm X Wx [a] g) (hm : X.mg "int" = none) (hg : Gl X "int" := by rfl) (he : starEach [a] X.env = (false, eval a X.env) :: starEach [] X.env := by rfl) : PEm X Wx (.Call (.Name "int" p) [a] [] pos) (dCB intF g) :=
  m_callTy call_int1 cs_int hg hm (by decide +kernel) ha (by decide) (by decide) he rfl
theorem m_tuple (ha : PAm X Wx [a] g) (hm : X.mg "tuple" = none) (hg : Gl X "tuple" := by rfl) (he : starEach [a] X.env = (false, eval a X.env) :: starEach [] X.env := by rfl) : PEm X Wx (.Call (.Name "tuple" p) [a] [] pos) (dCB tupF g) :=
  m_callTy call_tuple_of cs_tup hg hm (by decide +kernel) ha (by decide) (by decide) he rfl
theorem m_list (ha : PAm X Wx [a] g) (hm : X.mg "list" = none) (hg : Gl X "list" := by rfl) (he : starEach [a] X.env = (false, eval a X.env) :: starEach [] X.env := by rfl) : PEm X Wx (.Call (.Name "list" p) [a] [] pos) (dCB lstF g) :=
  m_callTy call_list_of cs_lst hg hm (by decide +kernel) ha (by decide) (by decide) he rfl
theorem m_max (hc : X.calm = true) (hu : X.A.units + 64 < cLine) (ha : PAm X Wx (e :: es) g) (hm : X.mg "max" = none) (hg : Gl X "max" := by rfl) (he : starEach (e :: es) X.env = (false, eval e X.env) :: starEach es X.env := by rfl) (hpl : (backTo pos (starEach es X.env)).any (·.1) = false := by rfl) : PEm X Wx (.Call (.Name "max" p) (e :: es) [] pos) (dCB maxF g) :=
  m_callB (call_maxM hc hu) cs_big hg hm (by decide +kernel) ha (by decide) (by decide) he hpl
theorem m_min (hc : X.calm = true) (hu : X.A.units + 64 < cLine) (ha : PAm X Wx (e :: es) g) (hm : X.mg "min" = none) (hg : Gl X "min" := by rfl) (he : starEach (e :: es) X.env = (false, eval e X.env) :: starEach es X.env := by rfl) (hpl : (backTo pos (starEach es X.env)).any (·.1) = false := by rfl) : PEm X Wx (.Call (.Name "min" p) (e :: es) [] pos) (dCB minF g) :=
  m_callB (call_minM hc hu) cs_big hg hm (by decide +kernel) ha (by decide) (by decide) he hpl
theorem m_isiN {T : String} {x : Str} {f : Dn} (ha : PEm X Wx a f) (hm : X.mg "isinstance" = none) (hx : X.mg x = none) (hgx : Gl X x) (hb : bootBuiltins x = some (.type T)) (hn : x ≠ "__name__" := by decide) (hd : (x == ("__debug__" : Str)) = false := by decide) (hg : Gl X "isinstance" := by rfl)
    (he : starEach (a :: [.Name x p']) X.env = (false, eval a X.env) :: starEach [.Name x p'] X.env := by rfl) (hpl : (backTo pos (starEach [.Name x p'] X.env)).any (·.1) = false := by rfl)
    (hs : starEach (.Name x p' :: []) X.env = (false, eval (.Name x p') X.env) :: starEach [] X.env := by rfl) : PEm X Wx (.Call (.Name "isinstance" p) [a, .Name x p'] [] pos) (dIsi T f) :=
  m_isi ha hm (pe_bltn hgx hx hb rfl hn hd) hg he hpl hs
end

/-! ### defs -/
/-- the def x as the top has written it -/
def Df (K : PySem.W.Frag) (mg : Str → Option Value) (x : Str) (st : Stmt) (ps : List Str) : Prop := ∃ f fd, Fun K x x st f fd ∧ mg x = some (.ref f) ∧ ∀ us : List Value, us.length = ps.length → bindArgs fd ⟨us, []⟩ = pure (ps.zip us)
/-- the def x keeps the contract m, k calls deep -/
def Cal (P : Program) (w : World) (K : PySem.W.Frag) (mg : Str → Option Value) (base : Heap) (k : Nat) (x : Str) (ps : List Str) (m : Mf) : Prop := ∃ f fd, mg x = some (.ref f) ∧ PySem.W.keepIn K (.ref f) = true ∧ Binds K fd ps [] ∧ FnOk P w K mg base (L2.CX P w) k f fd ps (spF K mg ps.length m)
/-- a body's denotation as a contract -/
def mF (np n : Nat) (b : Sn) : Mf := fun ds w => if ds.length = np then runB b n ds w else none
theorem mF_len {np n : Nat} {b : Sn} : ∀ ds w r, mF np n b ds w = some r → ds.length = np := fun ds w r h => by
  unfold mF at h
  split at h
  · assumption
  · cases h
theorem mF_run {np n : Nat} {b : Sn} : ∀ ds w r, mF np n b ds w = some r → runB b n ds w = some r := fun ds w r h => by
  unfold mF at h
  split at h
  · exact h
  · cases h
section
variable {P : Program} {w : World} {K : PySem.W.Frag} {mg : Str → Option Value} {base : Heap}
theorem df_mk {x : Str} {st : Stmt} {f : Addr} {h : Heap} {ps : List Str} {oc : Value} {od an : Option Addr} {osl : Array (Option Value)} {kV doc pm cdv ct : Value} (X : K.In h) (G : h.Ns mainGlobals mg) (a : PySem.W.nsIn K mainGlobals x = some (some (.ref f)))
    (l : K.lookup f = some ⟨oc, od, .func (PySem.W.fnOf x x (defArgs st) (defBody st) (defScope st) .none kV doc pm an cdv ct), osl⟩) (c : PySem.W.codeIn K cdv x = true) (k : PySem.W.keepIn K (.ref f) = true)
    (hb : ∀ (kV doc pm : Value) (an : Option Addr) (cdv ct : Value) (us : List Value), us.length = ps.length → bindArgs (PySem.W.fnOf x x (defArgs st) (defBody st) (defScope st) .none kV doc pm an cdv ct) ⟨us, []⟩ = pure (ps.zip us)) : Df K mg x st ps := by
  have F := fun_mk (st := st) l c k
  exact ⟨f, _, F, PySem.W.mg_of X G a, hb _ _ _ _ _ _⟩
theorem cal_of {x : Str} {st : Stmt} {N ps : List Str} {k np n : Nat} {b : Sn} (F : Df K mg x st ps) (Sc : FnScope N ps (defScope st)) (hn : N.length = n) (hp : ps.length = np)
    (hbody : ∀ (f : Addr) (cdv : Value) (A : Around) (outer : List PySem.Env) (s : Shared) (H : Hp) (E : XK), Room k (A.deeper (envOfC x (defScope st) s.heap.objs.size f cdv)) →
      PSsm (cxOf (L2.CX P w) P w K mg base N x (defScope st) f cdv A outer s H E) (fun cls d _ H => E cls d H) (defBody st) b) : Cal P w K mg base (k + 1) x ps (mF np n b) := by
  obtain ⟨f, fd, F, hg, hb⟩ := F
  subst hn hp
  exact ⟨f, fd, hg, F.kp, .all hb, fn_ok F Sc mF_run (hbody f)⟩
theorem Cal.mono {j k : Nat} {x : Str} {ps : List Str} {m : Mf} (h : Cal P w K mg base j x ps m) (l : j ≤ k) : Cal P w K mg base k x ps m := by
  obtain ⟨f, fd, h1, h2, h3, h4⟩ := h
  exact ⟨f, fd, h1, h2, h3, h4.mono l⟩
end
section
variable {X : Cx} {Wx : WX} {e : Expr} {es : List Expr} {pos p : Pos} {x : Str} {g : An}
theorem m_calC {k np n : Nat} {ps : List Str} {b : Sn} (C : Cal X.prog X.w X.K X.mg X.base k x ps (mF np n b)) (hp : ps.length = np) (hr : Room k X.A) (tk : Takes X Wx) (ha : PAm X Wx (e :: es) g)
    (hg : Gl X x := by rfl) (hdb : (x == ("__debug__" : Str)) = false := by decide) (he : starEach (e :: es) X.env = (false, eval e X.env) :: starEach es X.env := by rfl) (hpl : (backTo pos (starEach es X.env)).any (·.1) = false := by rfl) :
    PEm X Wx (.Call (.Name x p) (e :: es) [] pos) (dCall (mF np n b) g) := by
  obtain ⟨f, fd, h1, h2, h3, h4⟩ := C
  subst hp
  exact m_call h4 mF_len hr h1 h2 h3 tk ha hg hdb he hpl
end

/-! ### the law -/
def spLaw (K : PySem.W.Frag) : Sp := fun vs H Q _ => ∃ (a : Addr) (ns : List Int), vs = [.ref a] ∧ SqL K H a (ns.map V.int) ∧ ns.length ≤ 63 ∧ ∀ H', Q (.bl true) H'
theorem law_of {P : Program} {w : World} {K : PySem.W.Frag} {mg : Str → Option Value} {fa : Addr} {k n : Nat} {x : Str} {N : List Str} {b : Sn} {st : Stmt} (hfa : mg "law" = some (.ref fa)) (F : Df K mg "law" st [x]) (Sc : FnScope N [x] (defScope st)) (hn : N.length = n)
    (hm : ∀ ns : List Int, ns.length ≤ 63 → ∃ w', mF 1 n b [.scr ns] ⟨none⟩ = some (.val (.bl true) w'))
    (hbody : ∀ base : Heap, K.In base → base.Ns mainGlobals mg → ∀ (f : Addr) (cdv : Value) (A : Around) (outer : List PySem.Env) (s : Shared) (H : Hp) (E : XK), Room k (A.deeper (envOfC "law" (defScope st) s.heap.objs.size f cdv)) →
      PSsm (cxOf (L2.CX P w) P w K mg base N "law" (defScope st) f cdv A outer s H E) (fun cls d _ H => E cls d H) (defBody st) b) :
    ∃ fd : FuncData, (∀ (s : Shared) (u : Value), BindsTo s fd ⟨[u], []⟩ [(x, u)]) ∧ ∀ base : Heap, K.In base → base.Ns mainGlobals mg → FnOk P w K mg base (L2.CX P w) (k + 1) fa fd [x] (spLaw K) := by
  obtain ⟨f, fd, F, hg, hb⟩ := F
  cases hfa.symm.trans hg
  refine ⟨fd, fun s u => .of_eq (hb [u] rfl), fun base hB hG => (fn_ok (m := mF 1 n b) F Sc (by subst hn; exact mF_run) (hbody base hB hG fa)).imp fun vs H Q E h => ?_⟩
  obtain ⟨a, ns, rfl, hS, hl, q⟩ := h
  obtain ⟨w', hw⟩ := hm ns hl
  refine ⟨rfl, ⟨none⟩, fun _ => False, ⟨none⟩, [.scr ns], trivial, fun a z => ?_, fun a z => z.elim, .cons (.scr ns ?_) .nil, ?_⟩
  · cases z
  · rcases hS with hS | hS
    · exact .inl ⟨fun z => z.elim (fun z => nomatch z) id, hS⟩
    · exact .inr hS
  · rw [hw]
    intro v ws' H' _ _ hd
    cases hd
    exact q H'
end Pm
namespace Pm
open PySem PySem.Spec PyProof.Rows L2

/-! ### rules in short -/
section
variable {X : Cx} {Wx : WX} {a b e : Expr} {pos pos' p : Pos} {x : Str}
theorem mgn (i : Nat) (hN : X.N.Nodup) (hi : X.N[i]? = some x := by rfl) (hx : L2.Loc X.env.scope x := by first | exact Or.inl rfl | exact Or.inr rfl) (hf : X.fn x = true ∨ X.env.scope.names.lookup x = some .local := by first | exact .inl rfl | exact .inr rfl) : PGm X (.Name x pos) [i] (pName i) := mg_name hN hi hx hf
theorem msv {f : Dn} (i : Nat) (hN : X.N.Nodup) (he : PEm X Wx e f) (hi : X.N[i]? = some x := by rfl) (hx : L2.Loc X.env.scope x := by first | exact Or.inl rfl | exact Or.inr rfl) (hs : swapsWith e (some (.Name x pos')) pos.line X.env = pure false := by rfl)
    (hf : X.fn x = true ∨ X.env.scope.names.lookup x = some .local := by first | exact .inl rfl | exact .inr rfl) : PSm X Wx (.Assign [.Name x pos'] e pos) (sSet i f) := ms_set hN hi hx he hs hf
theorem mso {f : Dn} (i : Nat) (hN : X.N.Nodup) (he : PFm X Wx e f) (hi : X.N[i]? = some x := by rfl) (hx : L2.Loc X.env.scope x := by first | exact Or.inl rfl | exact Or.inr rfl) (hs : swapsWith e (some (.Name x pos')) pos.line X.env = pure false := by rfl)
    (hf : X.fn x = true ∨ X.env.scope.names.lookup x = some .local := by first | exact .inl rfl | exact .inr rfl) : PSm X Wx (.Assign [.Name x pos'] e pos) (sOwn i f) := ms_own hN hi hx he hs hf
theorem mst (i : Nat) (hN : X.N.Nodup) (hi : X.N[i]? = some x := by rfl) (hx : L2.Loc X.env.scope x := by first | exact Or.inl rfl | exact Or.inr rfl) (hs : swapsWith (.List [] p) (some (.Name x pos')) pos.line X.env = pure false := by rfl)
    (hf : X.fn x = true ∨ X.env.scope.names.lookup x = some .local := by first | exact .inl rfl | exact .inr rfl) : PSm X Wx (.Assign [.Name x pos'] (.List [] p) pos) (sTown i) := ms_town hN hi hx hs hf
theorem msa {f : Dn} (i : Nat) (hN : X.N.Nodup) (he : PEm X Wx e f) (hi : X.N[i]? = some x := by rfl) (hx : L2.Loc X.env.scope x := by first | exact Or.inl rfl | exact Or.inr rfl)
    (hf : X.fn x = true ∨ X.env.scope.names.lookup x = some .local := by first | exact .inl rfl | exact .inr rfl) : PSm X Wx (.AugAssign (.Name x pos') .Add e pos) (sAug i iaddD f) := ms_aug hN hi hx he hf
end
end Pm
namespace Pm
open PySem PySem.Spec PyProof.Rows L2

/-! ### plain evaluation: what holds behind a denotation -/
theorem sizeBig : 1000000 ≤ sizeLine := by decide
theorem sizeIs : sizeLine = 16777216 := by decide
theorem sz_le {α : Type} {n : Nat} {i : Decidable (n ≤ sizeLine)} {a b : α} (h : n ≤ 16777216) : (if n ≤ sizeLine then a else b) = a := if_pos (by rw [sizeIs]; exact h)
theorem sz_lt {α : Type} {n : Nat} {i : Decidable (n < sizeLine)} {a b : α} (h : n < 16777216) : (if n < sizeLine then a else b) = a := if_pos (by rw [sizeIs]; exact h)
def Res.al {α : Type} (r : Res α) (Q : α → S → Prop) : Prop := match r with
  | .ok a s => Q a s
  | _ => False
def Mal (o : Option Rt) (Q : D → W → Prop) : Prop := match o with
  | some (.val d w) => Q d w
  | _ => False
def callR (o : Option Rt) (s : S) : Res D := match o with
  | some (.val d w') => .ok d { s with w := w' }
  | some (.exc c w') => .ex c { s with w := w' }
  | none => .bad
section
variable {α β : Type}
@[simp] theorem al_ok (a : α) (s : S) (Q : α → S → Prop) : (Res.ok a s).al Q = Q a s := rfl
@[simp] theorem al_bad (Q : α → S → Prop) : (Res.bad : Res α).al Q = False := rfl
@[simp] theorem al_bind (r : Res α) (k : α → S → Res β) (Q : β → S → Prop) : (r.bind k).al Q = r.al fun a s => (k a s).al Q := by cases r <;> rfl
@[simp] theorem al_ne (r : Res α) (Q : α → S → Prop) : r.ne.al Q = r.al Q := by cases r <;> rfl
@[simp] theorem al_callR (o : Option Rt) (s : S) (Q : D → S → Prop) : (callR o s).al Q = Mal o fun d w' => Q d { s with w := w' } := by
  cases o with
  | none => rfl
  | some r => cases r <;> rfl
theorem Res.al.mono {r : Res α} {Q Q' : α → S → Prop} (h : r.al Q) (f : ∀ a s, Q a s → Q' a s) : r.al Q' := by
  cases r with
  | ok a s => exact f a s h
  | ex _ _ => exact h
  | bad => exact h
theorem Mal.mono {o : Option Rt} {Q Q' : D → W → Prop} (h : Mal o Q) (f : ∀ a s, Q a s → Q' a s) : Mal o Q' := by
  cases o with
  | none => exact h
  | some r =>
    cases r with
    | val d w => exact f d w h
    | exc _ _ => exact h
@[simp] theorem Mal_val (d : D) (w : W) (Q : D → W → Prop) : Mal (some (.val d w)) Q = Q d w := rfl
theorem Mal.get {o : Option Rt} {Q : D → W → Prop} (h : Mal o Q) : ∃ d w, o = some (.val d w) ∧ Q d w := by
  cases o with
  | none => exact h.elim
  | some r =>
    cases r with
    | val d w => exact ⟨d, w, rfl, h⟩
    | exc _ _ => exact h.elim
theorem Res.al.get {r : Res α} {Q : α → S → Prop} (h : r.al Q) : ∃ a s, r = .ok a s ∧ Q a s := by
  cases r with
  | ok a s => exact ⟨a, s, rfl, h⟩
  | ex _ _ => exact h.elim
  | bad => exact h.elim
end
/-- a body -/
def finQ (Q : D → W → Prop) (fl : Fl) (s : S) : Prop := match fl with
  | .ret d => Q d s.w
  | .next => Q .non s.w
  | _ => False
@[simp] theorem finQ_ret (Q : D → W → Prop) (d : D) (s : S) : finQ Q (.ret d) s = Q d s.w := rfl
@[simp] theorem finQ_next (Q : D → W → Prop) (s : S) : finQ Q .next s = Q .non s.w := rfl
theorem mal_mF {np n : Nat} {b : Sn} {ds : List D} {w : W} {Q : D → W → Prop} (h : ds.length = np) : Mal (mF np n b ds w) Q = (b ⟨ds.map Sl.va ++ List.replicate (n - ds.length) .no, w⟩).al (finQ Q) := by
  unfold mF runB
  rw [if_pos h]
  cases b ⟨ds.map Sl.va ++ List.replicate (n - ds.length) .no, w⟩ with
  | bad => rfl
  | ex _ _ => rfl
  | ok fl s => cases fl <;> rfl
section
variable {l : List Sl} {w : W} {Q : Fl → S → Prop} {QD : D → S → Prop} {QL : List D → S → Prop} {QB : Bool → S → Prop}
theorem e_var (i : Nat) : dVar i ⟨l, w⟩ = match l[i]? with
  | some (.va d) => .ok d ⟨l, w⟩
  | some (.ow _) => .ok (.own i) ⟨l, w⟩
  | _ => .bad := rfl
theorem e_c (d : D) : dC d ⟨l, w⟩ = .ok d ⟨l, w⟩ := rfl
theorem e_bin (o : D → D → Option D) (f g : Dn) : dBin o f g ⟨l, w⟩ = (f ⟨l, w⟩).bind fun x s1 => (g s1).bind fun y s2 => Res.opt ((rs s2 x).bind fun a => (rs s2 y).bind fun b => o a b) s2 := rfl
theorem e_nil : aNil ⟨l, w⟩ = .ok [] ⟨l, w⟩ := rfl
theorem e_cons (f : Dn) (g : An) : aCons f g ⟨l, w⟩ = (f ⟨l, w⟩).bind fun x s1 => (g s1).bind fun xs s2 => .ok (x :: xs) s2 := rfl
theorem e_call (m : Mf) (g : An) : dCall m g ⟨l, w⟩ = (g ⟨l, w⟩).bind fun ds s1 => (fzs ds s1).bind fun es s2 => callR (m es s2.w) s2 := by
  unfold dCall
  cases g ⟨l, w⟩ with
  | bad => rfl
  | ex _ _ => rfl
  | ok ds s1 =>
    simp only [bind_ok]
    cases fzs ds s1 with
    | bad => rfl
    | ex _ _ => rfl
    | ok es s2 => 
      simp only [bind_ok]
      unfold callR
      rfl
theorem e_tup (g : An) : dTup g ⟨l, w⟩ = (g ⟨l, w⟩).bind fun ds s1 => (fzs ds s1).bind fun es s2 => if es.length ≤ sizeLine then .ok (.tup es) s2 else .bad := rfl
theorem e_lst (g : An) : dLst g ⟨l, w⟩ = (g ⟨l, w⟩).bind fun ds s1 => (fzs ds s1).bind fun es s2 => if es.length ≤ sizeLine then .ok (.lst es) s2 else .bad := rfl
theorem e_cb (fn : List D → Option D) (g : An) : dCB fn g ⟨l, w⟩ = (g ⟨l, w⟩).bind fun ds s1 => Res.opt ((rsl s1 ds).bind fn) s1 := rfl
theorem e_sl (f : Dn) (lo hi : On) : dSl f lo hi ⟨l, w⟩ = (f ⟨l, w⟩).bind fun x s1 => (lo s1).bind fun i s2 => (hi s2).bind fun j s3 => Res.opt ((rs s3 x).bind fun y => slD y i j) s3 := rfl
theorem e_onone : oNone ⟨l, w⟩ = .ok none ⟨l, w⟩ := rfl
theorem e_osome (f : Dn) : oSome f ⟨l, w⟩ = (f ⟨l, w⟩).bind fun d s1 => match d with
  | .int i => .ok (some i) s1
  | _ => .bad := rfl
theorem e_tru (f : Dn) : bTru f ⟨l, w⟩ = (f ⟨l, w⟩).bind fun d s1 => Res.opt ((rs s1 d).bind truD) s1 := rfl
theorem e_of (f : Dn) : bOf f ⟨l, w⟩ = (f ⟨l, w⟩).bind fun d s1 => match d with
  | .bl b => .ok b s1
  | _ => .bad := rfl
theorem e_band (f g : Bn) : bAnd f g ⟨l, w⟩ = (f ⟨l, w⟩).bind fun b s1 => if b = true then g s1 else .ok false s1 := rfl
theorem e_bor (f g : Bn) : bOr f g ⟨l, w⟩ = (f ⟨l, w⟩).bind fun b s1 => if b = true then .ok true s1 else g s1 := rfl
theorem e_bnot (f : Bn) : bNot f ⟨l, w⟩ = (f ⟨l, w⟩).bind fun b s1 => .ok (!b) s1 := rfl
theorem e_if (c : Bn) (f g : Dn) : dIf c f g ⟨l, w⟩ = (c ⟨l, w⟩).bind fun b s1 => if b = true then f s1 else g s1 := rfl
theorem e_and (f g : Dn) : dAnd f g ⟨l, w⟩ = (f ⟨l, w⟩).bind fun x s1 => match x with
  | .bl true => g s1
  | .bl false => .ok (.bl false) s1
  | _ => .bad := rfl
theorem e_or (f g : Dn) : dOr f g ⟨l, w⟩ = (f ⟨l, w⟩).bind fun x s1 => match x with
  | .bl true => .ok (.bl true) s1
  | .bl false => g s1
  | _ => .bad := rfl
theorem e_not (f : Dn) : dNot f ⟨l, w⟩ = (f ⟨l, w⟩).bind fun d s1 => Res.opt ((rs s1 d).bind fun x => (truD x).map fun b => .bl (!b)) s1 := rfl
theorem e_neg (f : Dn) : dNeg f ⟨l, w⟩ = (f ⟨l, w⟩).bind fun d s1 => match d with
  | .int i => .ok (.int (-i)) s1
  | _ => .bad := rfl
theorem e_chain (o o' : D → D → Option D) (f g h : Dn) : dChain o o' f g h ⟨l, w⟩ = (f ⟨l, w⟩).bind fun x s1 => (g s1).bind fun y s2 => (Res.opt ((rs s2 x).bind fun a => (rs s2 y).bind fun b => o a b) s2).bind fun z s3 => match z with
  | .bl true => (h s3).bind fun w s4 => Res.opt ((rs s4 y).bind fun a => (rs s4 w).bind fun b => o' a b) s4
  | .bl false => .ok (.bl false) s3
  | _ => .bad := rfl
theorem e_isi (T : String) (f : Dn) : dIsi T f ⟨l, w⟩ = (f ⟨l, w⟩).bind fun d s1 => Res.opt ((rs s1 d).bind fun x => (isiD T x).map D.bl) s1 := rfl
theorem e_act (act : D → List D → Dn) (f : Dn) (g : An) : dAct act f g ⟨l, w⟩ = (f ⟨l, w⟩).bind fun r s1 => match rs s1 r with
  | some (.lst _) => (g s1).bind fun xs s2 => (fzs xs s2).bind fun ys s3 => act r ys s3
  | _ => .bad := rfl
theorem e_appT (k : Int) (t : List Int) : appA .town [.int k] ⟨l, ⟨some t⟩⟩ = if t.length < sizeLine then .ok .non ⟨l, ⟨some (t ++ [k])⟩⟩ else .bad := rfl
theorem e_appO (i : Nat) (x : D) : appA (.own i) [x] ⟨l, w⟩ = match l[i]? with
  | some (.ow (.lst m)) => if m.length < sizeLine then .ok .non ⟨l.set i (.ow (.lst (m ++ [x]))), w⟩ else .bad
  | _ => .bad := rfl
theorem e_extO (i : Nat) (x : List D) : extA (.own i) [.lst x] ⟨l, w⟩ = match l[i]? with
  | some (.ow (.lst m)) => if m.length + x.length ≤ sizeLine then .ok .non ⟨l.set i (.ow (.lst (m ++ x))), w⟩ else .bad
  | _ => .bad := rfl
theorem e_setO (i : Nat) (j : Int) (v : D) : setA (.own i) (.int j) v ⟨l, w⟩ = match l[i]? with
  | some (.ow (.lst m)) => (match ixN m.length j with
    | some n => .ok .next ⟨l.set i (.ow (.lst (m.set n v))), w⟩
    | none => .bad)
  | _ => .bad := rfl
theorem e_setT (j k : Int) (t : List Int) : setA .town (.int j) (.int k) ⟨l, ⟨some t⟩⟩ = match ixN t.length j with
  | some n => .ok .next ⟨l, ⟨some (t.set n k)⟩⟩
  | none => .bad := rfl
theorem e_next : sNext ⟨l, w⟩ = .ok .next ⟨l, w⟩ := rfl
theorem e_seq (a b : Sn) : sSeq a b ⟨l, w⟩ = (a ⟨l, w⟩).bind fun fl s1 => match fl with
  | .next => b s1
  | fl => .ok fl s1 := rfl
theorem e_sif (c : Bn) (a b : Sn) : sIf c a b ⟨l, w⟩ = (c ⟨l, w⟩).bind fun k s1 => if k = true then a s1 else b s1 := rfl
theorem e_ret (f : Dn) : sRet f ⟨l, w⟩ = (f ⟨l, w⟩).bind fun d s1 => (fz d s1).bind fun d' s2 => .ok (.ret d') s2 := rfl
theorem e_drop (f : Dn) : sDrop f ⟨l, w⟩ = (f ⟨l, w⟩).bind fun _ s1 => .ok .next s1 := rfl
theorem e_set (i : Nat) (f : Dn) : sSet i f ⟨l, w⟩ = (f ⟨l, w⟩).bind fun d s1 => (fz d s1).bind fun d' s2 => .ok .next (put i (.va d') s2) := rfl
theorem e_own (i : Nat) (f : Dn) : sOwn i f ⟨l, w⟩ = (f ⟨l, w⟩).bind fun d s1 => .ok .next (put i (.ow d) s1) := rfl
theorem e_sub (f g h : Dn) : sSub f g h ⟨l, w⟩ = (h ⟨l, w⟩).bind fun v s1 => (fz v s1).bind fun v' s2 => (f s2).bind fun r s3 => (g s3).bind fun k s4 => setA r k v' s4 := rfl
theorem e_town (i : Nat) : sTown i ⟨l, ⟨none⟩⟩ = .ok .next ⟨l.set i (.va .town), ⟨some []⟩⟩ := rfl
theorem e_asg (p : Gn) (f : Dn) : sAsg p f ⟨l, w⟩ = (f ⟨l, w⟩).bind fun d s1 => (fz d s1).bind fun d' s2 => match p d' s2 with
  | some s3 => .ok .next s3
  | none => .bad := rfl
theorem e_for (it : In) (p : Gn) (b : Sn) : sFor it p b ⟨l, w⟩ = (it ⟨l, w⟩).bind fun xs s1 => forL p b xs s1 := rfl
theorem e_par (is : List Nat) (h : Hn) : sPar is h ⟨l, w⟩ = (h ⟨l, w⟩).bind fun xs s1 => if is.length = xs.length then .ok .next (puts is xs s1) else .bad := rfl
theorem e_hnil : hNil ⟨l, w⟩ = .ok [] ⟨l, w⟩ := rfl
theorem e_hva (f : Dn) (r : Hn) : hVa f r ⟨l, w⟩ = (f ⟨l, w⟩).bind fun d s1 => (fz d s1).bind fun d' s2 => (r s2).bind fun xs s3 => .ok (.va d' :: xs) s3 := rfl
theorem e_how (f : Dn) (r : Hn) : hOw f r ⟨l, w⟩ = (f ⟨l, w⟩).bind fun d s1 => (r s1).bind fun xs s3 => .ok (.ow d :: xs) s3 := rfl
theorem e_comp (vs : List Nat) (it : In) (p : Gn) (c : Bn) (f : Dn) : dComp vs it p c f ⟨l, w⟩ = (it ⟨l, w⟩).bind fun items s1 => (compL vs p c f items s1).bind fun ds s2 => if ds.length ≤ sizeLine then .ok (.lst ds) s2 else .bad := by
  unfold dComp cL
  cases it ⟨l, w⟩ with
  | bad => rfl
  | ex _ _ => rfl
  | ok items s1 =>
    simp only [bind_ok]
    cases compL vs p c f items s1 with
    | bad => rfl
    | ex _ _ => rfl
    | ok ds s2 =>
      simp only [bind_ok]
      split <;> rfl
theorem e_yes : bYes ⟨l, w⟩ = .ok true ⟨l, w⟩ := rfl
theorem e_iof (f : Dn) : iOf f ⟨l, w⟩ = (f ⟨l, w⟩).bind fun d s1 => (fz d s1).bind fun d' s2 => Res.opt (itemsD d') s2 := rfl
theorem e_izip (g : An) : iZip g ⟨l, w⟩ = (g ⟨l, w⟩).bind fun ds s1 => (fzs ds s1).bind fun es s2 => match es with
  | [x, y] => Res.opt (zipD x y) s2
  | _ => .bad := rfl
theorem e_rng1 (g : An) : iRng1m g ⟨l, w⟩ = (g ⟨l, w⟩).bind fun ds s1 => match ds with
  | [.int j] => Res.opt (rngL 0 j 1) s1
  | _ => .bad := rfl
theorem e_rng2 (g : An) : iRng2m g ⟨l, w⟩ = (g ⟨l, w⟩).bind fun ds s1 => match ds with
  | [.int i, .int j] => Res.opt (rngL i j 1) s1
  | _ => .bad := rfl
theorem e_fznil : fzs [] ⟨l, w⟩ = .ok [] ⟨l, w⟩ := rfl
theorem e_fzcons (d : D) (r : List D) : fzs (d :: r) ⟨l, w⟩ = (fz d ⟨l, w⟩).bind fun d' s1 => (fzs r s1).bind fun r' s2 => .ok (d' :: r') s2 := rfl
theorem e_fzown (i : Nat) : fz (.own i) ⟨l, w⟩ = match l[i]? with
  | some (.ow d) => .ok d ⟨l.set i (.va d), w⟩
  | _ => .bad := rfl
theorem e_rsown (i : Nat) : rs ⟨l, w⟩ (.own i) = match l[i]? with
  | some (.ow d) => some d
  | _ => none := rfl
theorem e_rstown (t : List Int) : rs ⟨l, ⟨some t⟩⟩ .town = some (.lst (t.map D.int)) := rfl
theorem e_rslnil (s : S) : rsl s [] = some [] := rfl
theorem e_rslcons (s : S) (d : D) (r : List D) : rsl s (d :: r) = (rs s d).bind fun x => (rsl s r).map fun y => x :: y := rfl
theorem e_name (i : Nat) (d : D) : pName i d ⟨l, w⟩ = some ⟨l.set i (.va d), w⟩ := rfl
theorem e_pnil : pNil [] ⟨l, w⟩ = some ⟨l, w⟩ := rfl
theorem e_pcons (p : Gn) (q : Gns) (d : D) (r : List D) : pCons p q (d :: r) ⟨l, w⟩ = (p d ⟨l, w⟩).bind fun s1 => q r s1 := rfl
theorem e_ptup (n : Nat) (q : Gns) (m : List D) : pTup n q (.tup m) ⟨l, w⟩ = if m.length = n then q m ⟨l, w⟩ else none := rfl
end
theorem puts_nil (s : S) : puts [] [] s = s := rfl
theorem puts_cons (i : Nat) (is : List Nat) (x : Sl) (xs : List Sl) (s : S) : puts (i :: is) (x :: xs) s = puts is xs (put i x s) := rfl
/-! operations on numbers -/
theorem o_add (i j : Int) : addD (.int i) (.int j) = some (.int (i + j)) := rfl
theorem o_addT {l m : List D} (h : l.length + m.length ≤ 16777216) : addD (.tup l) (.tup m) = some (.tup (l ++ m)) := if_pos (by rw [sizeIs]; exact h)
theorem o_addL {l m : List D} (h : l.length + m.length ≤ 16777216) : addD (.lst l) (.lst m) = some (.lst (l ++ m)) := if_pos (by rw [sizeIs]; exact h)
theorem o_sub (i j : Int) : subD (.int i) (.int j) = some (.int (i - j)) := rfl
theorem o_mul {i j : Int} (h : CMul i j) : mulD (.int i) (.int j) = some (.int (i * j)) := if_pos h
theorem o_mulL {i j : Int} (h1 : -18446744073709551616 < i) (h2 : i < 18446744073709551616) : mulD (.int i) (.int j) = some (.int (i * j)) := o_mul (.inl ⟨h1, h2⟩)
theorem o_mulR {i j : Int} (h1 : -18446744073709551616 < j) (h2 : j < 18446744073709551616) : mulD (.int i) (.int j) = some (.int (i * j)) := o_mul (.inr ⟨h1, h2⟩)
theorem o_div {i j : Int} (h1 : 0 < j) (h2 : j < 1073741824) : fdivD (.int i) (.int j) = some (.int (i / j)) := if_pos (c := CDiv i j) ⟨h1, h2⟩
theorem o_fdiv {i j : Int} (h : 0 < j ∧ j < 1073741824) : fdivD (.int i) (.int j) = some (.int (i / j)) := if_pos (c := CDiv i j) h
theorem o_mod {i j : Int} (h : 0 < j) : modD (.int i) (.int j) = some (.int (i % j)) := if_pos h
theorem o_lt (i j : Int) : ltD (.int i) (.int j) = some (.bl (decide (i < j))) := rfl
theorem o_le (i j : Int) : leD (.int i) (.int j) = some (.bl (decide (i ≤ j))) := rfl
theorem o_gt (i j : Int) : gtD (.int i) (.int j) = some (.bl (decide (j < i))) := rfl
theorem o_ge (i j : Int) : geD (.int i) (.int j) = some (.bl (decide (j ≤ i))) := rfl
theorem o_eq (i j : Int) : eqD (.int i) (.int j) = some (.bl (i == j)) := by unfold eqD; rw [if_pos (.inl rfl)]; rfl
theorem o_ne (i j : Int) : neD (.int i) (.int j) = some (.bl (!(i == j))) := by unfold neD; rw [if_pos (.inl rfl)]; rfl
theorem atI_of {α : Type} {xs : List α} {i : Int} {n : Nat} {x : α} (hi : i = n) (h : xs[n]? = some x) : atI xs i = some x := by subst hi; exact atI_nat h
/-- a comprehension whose items are plain -/
theorem compL_map {vs : List Nat} {p : Gn} {c : Bn} {f : Dn} {s : S} (g : D → D) : ∀ (l : List D), noOw vs s = true →
    (∀ x ∈ l, ∃ s1 s2, p x (wipeS vs s) = some s1 ∧ c s1 = .ok true s1 ∧ f s1 = .ok (g x) s2 ∧ fz (g x) s2 = .ok (g x) s2 ∧ backS vs s s2 = s) → compL vs p c f l s = .ok (l.map g) s
  | [], _, _ => rfl
  | x :: l, hn, h => by
    obtain ⟨s1, s2, h1, h2, h3, h4, h5⟩ := h x List.mem_cons_self
    have ih := compL_map g l hn fun y hy => h y (List.mem_cons_of_mem _ hy)
    unfold compL
    rw [if_pos hn, h1]
    simp [h2, h3, h4, h5, ih]
end Pm
namespace Pm
open PySem PySem.Spec PyProof.Rows L2
def b__law_draw : Sn := (sSeq (sIf (bNot (bTru (dVar 1))) (sDrop (dAct appA (dVar 1) (aCons (dCB maxF (aCons (dBin addD (dComp [4] (iOf (dVar 0)) (pName 4) bYes (dCB absF (aCons (dVar 4) aNil))) (dLst (aCons (dC (.int 0)) aNil))) aNil)) aNil))) sNext)
  (sSeq (sDrop (dAct appA (dVar 1) (aCons (dC (.int 0)) aNil)))
  (sSeq (sSet 3 (dCB lenF (aCons (dVar 1) aNil)))
  (sSeq (sSet 4 (dIf (bTru (dVar 0)) (dBin ixD (dVar 0) (dBin modD (dVar 3) (dCB lenF (aCons (dVar 0) aNil)))) (dC (.int 0))))
  (sSeq (sSet 5 (dBin modD (dBin ixD (dVar 1) (dC (.int 0))) (dC (.int 65536))))
  (sSeq (sSub (dVar 1) (dC (.int 0)) (dBin fdivD (dBin ixD (dVar 1) (dC (.int 0))) (dC (.int 65536))))
  (sSeq (sSet 6 (dBin modD (dBin addD (dBin addD (dVar 4) (dBin mulD (dC (.int 40503)) (dVar 5))) (dBin mulD (dC (.int 104729)) (dVar 3))) (dC (.int 4294967291))))
  (sSeq (sSet 6 (dBin modD (dBin mulD (dBin modD (dBin mulD (dVar 6) (dVar 6)) (dC (.int 4294967279))) (dC (.int 48271))) (dC (.int 4294967291))))
  (sSeq (sSet 7 (dBin modD (dBin mulD (dBin modD (dBin mulD (dVar 6) (dVar 6)) (dC (.int 4294967279))) (dC (.int 69621))) (dC (.int 4294967291))))
  (sRet (dBin modD (dBin addD (dBin mulD (dBin fdivD (dVar 6) (dC (.int 64))) (dC (.int 67108864))) (dBin fdivD (dVar 7) (dC (.int 64)))) (dVar 2))))))))))))
def m__law_draw : Mf := mF 3 8 b__law_draw
theorem maxE (ns : List Int) : maxF [.lst (ns.map (fun n => D.int (if n < 0 then -n else n)) ++ [.int 0])] = some (.int ((ns.map (fun n => if n < 0 then -n else n) ++ [0]).tail.foldl max ((ns.map (fun n => if n < 0 then -n else n) ++ [0]).headD 0))) := by
  have e : ns.map (fun n => D.int (if n < 0 then -n else n)) ++ [.int 0] = (ns.map (fun n => if n < 0 then -n else n) ++ [0]).map D.int := by simp
  rw [e]
  unfold maxF bigF
  simp only [intsOf_map]
  cases ns <;> rfl
/-- behind the first draw's own start -/
def b_draw2 : Sn := (sSeq (sDrop (dAct appA (dVar 1) (aCons (dC (.int 0)) aNil)))
  (sSeq (sSet 3 (dCB lenF (aCons (dVar 1) aNil)))
  (sSeq (sSet 4 (dIf (bTru (dVar 0)) (dBin ixD (dVar 0) (dBin modD (dVar 3) (dCB lenF (aCons (dVar 0) aNil)))) (dC (.int 0))))
  (sSeq (sSet 5 (dBin modD (dBin ixD (dVar 1) (dC (.int 0))) (dC (.int 65536))))
  (sSeq (sSub (dVar 1) (dC (.int 0)) (dBin fdivD (dBin ixD (dVar 1) (dC (.int 0))) (dC (.int 65536))))
  (sSeq (sSet 6 (dBin modD (dBin addD (dBin addD (dVar 4) (dBin mulD (dC (.int 40503)) (dVar 5))) (dBin mulD (dC (.int 104729)) (dVar 3))) (dC (.int 4294967291))))
  (sSeq (sSet 6 (dBin modD (dBin mulD (dBin modD (dBin mulD (dVar 6) (dVar 6)) (dC (.int 4294967279))) (dC (.int 48271))) (dC (.int 4294967291))))
  (sSeq (sSet 7 (dBin modD (dBin mulD (dBin modD (dBin mulD (dVar 6) (dVar 6)) (dC (.int 4294967279))) (dC (.int 69621))) (dC (.int 4294967291))))
  (sRet (dBin modD (dBin addD (dBin mulD (dBin fdivD (dVar 6) (dC (.int 64))) (dC (.int 67108864))) (dBin fdivD (dVar 7) (dC (.int 64)))) (dVar 2)))))))))))
theorem draw_is : b__law_draw = sSeq (sIf (bNot (bTru (dVar 1))) (sDrop (dAct appA (dVar 1) (aCons (dCB maxF (aCons (dBin addD (dComp [4] (iOf (dVar 0)) (pName 4) bYes (dCB absF (aCons (dVar 4) aNil))) (dLst (aCons (dC (.int 0)) aNil))) aNil)) aNil))) sNext) b_draw2 := rfl
theorem draw_tail (ns t : List Int) (many : Int) (hm : 0 < many) (x0 : Int) (hl : t.length < 1000000) (hx : t[0]? = some x0) : (b_draw2 ⟨[.va (.scr ns), .va .town, .va (.int many), .no, .no, .no, .no, .no], ⟨some t⟩⟩).al (finQ fun d w => ∃ r t', d = .int r ∧ w = ⟨some t'⟩ ∧ 0 ≤ r ∧ r < many ∧ t'.length = t.length + 1) := by
  have sz : t.length < sizeLine := by rw [sizeIs]; omega
  have h0 : (t ++ [0])[0]? = some x0 := by cases t <;> simp_all
  have q0 : atI ((t ++ [0]).map D.int) 0 = some (.int x0) := atI_of (n := 0) rfl (by rw [List.getElem?_map, h0]; rfl)
  have qi : ixN (t ++ [0]).length 0 = some 0 := by simp [ixN]
  unfold b_draw2
  obtain ⟨c, hc⟩ : ∃ c, dIf (bTru (dVar 0)) (dBin ixD (dVar 0) (dBin modD (dVar 3) (dCB lenF (aCons (dVar 0) aNil)))) (dC (.int 0)) ⟨[.va (.scr ns), .va .town, .va (.int many), .va (.int (t ++ [0]).length), .no, .no, .no, .no], ⟨some (t ++ [0])⟩⟩ = .ok (.int c) ⟨[.va (.scr ns), .va .town, .va (.int many), .va (.int (t ++ [0]).length), .no, .no, .no, .no], ⟨some (t ++ [0])⟩⟩ := by
    cases ns with
    | nil => exact ⟨0, rfl⟩
    | cons n r =>
      have hp : (0 : Int) < ((n :: r).length : Nat) := by simp only [List.length_cons]; omega
      have b1 := Int.emod_nonneg ((t ++ [0]).length : Int) (Int.ne_of_gt hp)
      have b2 := Int.emod_lt_of_pos ((t ++ [0]).length : Int) hp
      have hk : (((t ++ [0]).length : Int) % ((n :: r).length : Nat)).toNat < (n :: r).length := by omega
      refine ⟨(n :: r)[(((t ++ [0]).length : Int) % ((n :: r).length : Nat)).toNat], ?_⟩
      have q : atI (n :: r) (((t ++ [0]).length : Int) % ((n :: r).length : Nat)) = some _ := atI_of (Int.toNat_of_nonneg b1).symm (List.getElem?_eq_getElem hk)
      simp only [e_if, e_tru, e_var, e_bin, e_cb, e_cons, e_nil, bind_ok, rs_scr, rs_int, truD, List.getElem?_cons_zero, List.getElem?_cons_succ, Option.bind_some, opt_some, List.isEmpty_cons, Bool.not_false, if_true, e_rslcons, e_rslnil, Option.map_some, lenF, o_mod hp, ixD, q]
  simp (disch := omega) only [e_seq, e_drop, e_act, e_var, e_cons, e_nil, e_c, bind_ok, bind_bad, bind_ex, al_bind, al_ok, al_ne, al_callR, e_rstown, e_rsown, e_fzcons, e_fznil, e_fzown, fz_non, fz_bl, fz_int, fz_str, fz_tup, fz_lst, fz_scr, fz_town, rs_non, rs_bl, rs_int, rs_str, rs_tup, rs_lst, rs_scr, e_appT, e_appO, e_extO, e_setO, e_setT, List.getElem?_cons_zero, List.getElem?_cons_succ, List.getElem?_nil, e_set, e_own, e_sub, e_asg, e_for, e_par, e_hnil, e_hva, e_how, puts_nil, puts_cons, e_cb, e_rslcons, e_rslnil, Option.bind_some, Option.map_some, lenF, opt_some, opt_none, put_mk, List.set_cons_succ, List.set_cons_zero, List.length_map, List.length_cons, List.length_nil, e_bin, e_call, e_tup, e_lst, e_sl, e_onone, e_osome, e_tru, e_of, e_band, e_bor, e_bnot, e_if, e_and, e_or, e_not, e_neg, e_chain, e_isi, e_next, e_sif, e_ret, e_comp, e_yes, e_iof, e_izip, e_rng1, e_rng2, e_name, e_pnil, e_pcons, e_ptup, o_add, o_sub, o_lt, o_le, o_gt, o_ge, o_eq, o_ne, finQ_ret, finQ_next, tupF, lstF, absF, intF, truD, itemsD, zipD, slD, o_mulL, o_mulR, o_div, o_mod, sz_le, sz_lt, o_addT, o_addL, hc, ixD, q0, qi]
  refine ⟨_, _, rfl, rfl, Int.emod_nonneg _ (by omega), Int.emod_lt_of_pos _ hm, by simp⟩
/-- a draw: a number below many; the town grows by at most two -/
theorem draw_ok (ns t : List Int) (many : Int) (hm : 0 < many) (hn : ns.length ≤ 63) (hl : t.length < 900000) : Mal (m__law_draw [.scr ns, .town, .int many] ⟨some t⟩) fun d w => ∃ r t', d = .int r ∧ w = ⟨some t'⟩ ∧ 0 ≤ r ∧ r < many ∧ t'.length ≤ t.length + 2 ∧ 0 < t'.length := by
  unfold m__law_draw
  rw [mal_mF (by rfl), draw_is]
  simp only [List.map_cons, List.map_nil, List.length_cons, List.length_nil, List.replicate, List.cons_append, List.nil_append]
  cases t with
  | cons x t =>
    simp only [e_seq, e_drop, e_act, e_var, e_cons, e_nil, e_c, bind_ok, bind_bad, bind_ex, al_bind, al_ok, al_ne, al_callR, e_rstown, e_rsown, e_fzcons, e_fznil, e_fzown, fz_non, fz_bl, fz_int, fz_str, fz_tup, fz_lst, fz_scr, fz_town, rs_non, rs_bl, rs_int, rs_str, rs_tup, rs_lst, rs_scr, e_appT, e_appO, e_extO, e_setO, e_setT, List.getElem?_cons_zero, List.getElem?_cons_succ, List.getElem?_nil, e_set, e_own, e_sub, e_asg, e_for, e_par, e_hnil, e_hva, e_how, puts_nil, puts_cons, e_cb, e_rslcons, e_rslnil, Option.bind_some, Option.map_some, lenF, opt_some, opt_none, put_mk, List.set_cons_succ, List.set_cons_zero, List.length_map, List.length_cons, List.length_nil, e_bin, e_call, e_tup, e_lst, e_sl, e_onone, e_osome, e_tru, e_of, e_band, e_bor, e_bnot, e_if, e_and, e_or, e_not, e_neg, e_chain, e_isi, e_next, e_sif, e_ret, e_comp, e_yes, e_iof, e_izip, e_rng1, e_rng2, e_name, e_pnil, e_pcons, e_ptup, o_add, o_sub, o_lt, o_le, o_gt, o_ge, o_eq, o_ne, finQ_ret, finQ_next, tupF, lstF, absF, intF, truD, itemsD, zipD, slD, o_mulL, o_mulR, o_div, o_mod, sz_le, sz_lt, o_addT, o_addL, List.isEmpty_cons, List.map_cons, Bool.not_false, Bool.not_true, Bool.false_eq_true, if_false]
    refine (draw_tail ns (x :: t) many hm x (by omega) rfl).mono fun fl s h => ?_
    cases fl <;> first | exact h.elim | skip
    · obtain ⟨r, t', h1, h2, h3, h4, h5⟩ := h
      exact ⟨r, t', h1, h2, h3, h4, by simp only [List.length_cons] at h5 ⊢; omega, by omega⟩
    · obtain ⟨r, t', h1, h2, h3, h4, h5⟩ := h
      exact ⟨r, t', h1, h2, h3, h4, by simp only [List.length_cons] at h5 ⊢; omega, by omega⟩
  | nil =>
    have hc : compL [4] (pName 4) bYes (dCB absF (aCons (dVar 4) aNil)) (ns.map D.int) ⟨[.va (.scr ns), .va .town, .va (.int many), .no, .no, .no, .no, .no], ⟨some []⟩⟩ = .ok ((ns.map D.int).map fun d => match d with | .int n => .int (if n < 0 then -n else n) | d => d) ⟨[.va (.scr ns), .va .town, .va (.int many), .no, .no, .no, .no, .no], ⟨some []⟩⟩ := by
      refine compL_map _ _ rfl fun x hx => ?_
      obtain ⟨n, _, rfl⟩ := List.mem_map.mp hx
      exact ⟨_, _, rfl, rfl, rfl, rfl, rfl⟩
    have e2 : ((ns.map D.int).map fun d => match d with | .int n => .int (if n < 0 then -n else n) | d => d) = ns.map (fun n => D.int (if n < 0 then -n else n)) := by rw [List.map_map]; rfl
    simp (disch := ((try simp only [List.length_map, List.length_cons, List.length_nil, List.length_append, List.length_replicate, List.length_set]); omega)) only [e_seq, e_drop, e_act, e_var, e_cons, e_nil, e_c, bind_ok, bind_bad, bind_ex, al_bind, al_ok, al_ne, al_callR, e_rstown, e_rsown, e_fzcons, e_fznil, e_fzown, fz_non, fz_bl, fz_int, fz_str, fz_tup, fz_lst, fz_scr, fz_town, rs_non, rs_bl, rs_int, rs_str, rs_tup, rs_lst, rs_scr, e_appT, e_appO, e_extO, e_setO, e_setT, List.getElem?_cons_zero, List.getElem?_cons_succ, List.getElem?_nil, e_set, e_own, e_sub, e_asg, e_for, e_par, e_hnil, e_hva, e_how, puts_nil, puts_cons, e_cb, e_rslcons, e_rslnil, Option.bind_some, Option.map_some, lenF, opt_some, opt_none, put_mk, List.set_cons_succ, List.set_cons_zero, List.length_map, List.length_cons, List.length_nil, e_bin, e_call, e_tup, e_lst, e_sl, e_onone, e_osome, e_tru, e_of, e_band, e_bor, e_bnot, e_if, e_and, e_or, e_not, e_neg, e_chain, e_isi, e_next, e_sif, e_ret, e_comp, e_yes, e_iof, e_izip, e_rng1, e_rng2, e_name, e_pnil, e_pcons, e_ptup, o_add, o_sub, o_lt, o_le, o_gt, o_ge, o_eq, o_ne, finQ_ret, finQ_next, tupF, lstF, absF, intF, truD, itemsD, zipD, slD, o_mulL, o_mulR, o_div, o_mod, sz_le, sz_lt, o_addT, o_addL, List.map_nil, List.isEmpty_nil, Bool.not_false, Bool.not_true, if_true, hc, e2, maxE, List.map_cons]
    refine (draw_tail ns [_] many hm _ (by simp) rfl).mono fun fl s h => ?_
    cases fl <;> first | exact h.elim | skip
    · obtain ⟨r, t', h1, h2, h3, h4, h5⟩ := h
      exact ⟨r, t', h1, h2, h3, h4, by simp at h5; simp; omega, by omega⟩
    · obtain ⟨r, t', h1, h2, h3, h4, h5⟩ := h
      exact ⟨r, t', h1, h2, h3, h4, by simp at h5; simp; omega, by omega⟩
end Pm
namespace Pm
open PySem PySem.Spec PyProof.Rows L2
def b__law_pick : Sn := (sRet (dBin ixD (dVar 2) (dCall m__law_draw (aCons (dVar 0) (aCons (dVar 1) (aCons (dCB lenF (aCons (dVar 2) aNil)) aNil))))))
def m__law_pick : Mf := mF 3 3 b__law_pick
def b__law_drawn_colour : Sn := (sSeq (sSet 2 (dLst (aCons (dC (.int 0)) (aCons (dC (.int 255)) (aCons (dCall m__law_draw (aCons (dVar 0) (aCons (dVar 1) (aCons (dC (.int 256)) aNil)))) (aCons (dCall m__law_draw (aCons (dVar 0) (aCons (dVar 1) (aCons (dC (.int 256)) aNil)))) aNil))))))
  (sSeq (sSet 3 (dComp [4] (iRng1m (aCons (dC (.int 3)) aNil)) (pName 4) bYes (dCall m__law_pick (aCons (dVar 0) (aCons (dVar 1) (aCons (dVar 2) aNil))))))
  (sRet (dTup (aCons (dBin ixD (dVar 3) (dC (.int 0))) (aCons (dBin ixD (dVar 3) (dC (.int 1))) (aCons (dBin ixD (dVar 3) (dC (.int 2))) (aCons (dCall m__law_pick (aCons (dVar 0) (aCons (dVar 1) (aCons (dLst (aCons (dC (.int 255)) (aCons (dC (.int 255)) (aCons (dC (.int 0)) (aCons (dCall m__law_draw (aCons (dVar 0) (aCons (dVar 1) (aCons (dC (.int 256)) aNil)))) aNil))))) aNil)))) aNil))))))))
def m__law_drawn_colour : Mf := mF 2 5 b__law_drawn_colour
/-- a comprehension of draws -/
theorem compL_dr {vs : List Nat} {p : Gn} {f : Dn} {sl : List Sl} {P : D → Prop} {k : Nat} (hn : ∀ w, noOw vs ⟨sl, w⟩ = true) : ∀ (items : List D) (t : List Int), t.length + k * items.length < 900000 →
    (∀ x ∈ items, ∀ t : List Int, t.length + k < 900000 → ∃ s1, p x (wipeS vs ⟨sl, ⟨some t⟩⟩) = some s1 ∧ (f s1).al fun d s3 => fz d s3 = .ok d s3 ∧ P d ∧ ∃ t' : List Int, backS vs ⟨sl, ⟨some t⟩⟩ s3 = ⟨sl, ⟨some t'⟩⟩ ∧ t'.length ≤ t.length + k) →
    (compL vs p bYes f items ⟨sl, ⟨some t⟩⟩).al fun ds s => (∀ d ∈ ds, P d) ∧ ds.length = items.length ∧ ∃ t' : List Int, s = ⟨sl, ⟨some t'⟩⟩ ∧ t'.length ≤ t.length + k * items.length
  | [], t, _, _ => ⟨fun d h => (nomatch h), rfl, t, rfl, by simp⟩
  | x :: items, t, hl, h => by
    have e : k * (x :: items).length = k * items.length + k := by rw [List.length_cons, Nat.mul_succ]
    rw [e] at hl
    obtain ⟨s1, h1, h2⟩ := h x List.mem_cons_self t (by omega)
    obtain ⟨d, s3, h3, h4, h5, t', h6, h7⟩ := h2.get
    have ih := compL_dr hn items t' (by omega) fun y hy => h y (List.mem_cons_of_mem _ hy)
    unfold compL
    rw [if_pos (hn _), h1]
    simp only [bYes, ne_ok, bind_ok, if_true, h3, h4, h6, al_bind]
    refine ih.mono fun ds s ⟨q1, q2, t'', q3, q4⟩ => ⟨fun z hz => ?_, ?_, t'', q3, by rw [e]; omega⟩
    · rcases List.mem_cons.mp hz with rfl | hz
      · exact h5
      · exact q1 z hz
    · simp [q2]
theorem atI_mem {α : Type} {xs : List α} {i : Int} (h0 : 0 ≤ i) (h1 : i < xs.length) : ∃ x ∈ xs, atI xs i = some x := by
  have hk : i.toNat < xs.length := by omega
  exact ⟨xs[i.toNat], List.getElem_mem hk, atI_of (Int.toNat_of_nonneg h0).symm (List.getElem?_eq_getElem hk)⟩
/-- data that is no token -/
def pl : D → Bool
  | .own _ => false
  | _ => true
theorem fz_pl {d : D} (h : pl d = true) (s : S) : fz d s = .ok d s := by cases d <;> first | rfl | cases h
theorem pick_ok (ns t : List Int) (l : List D) (hl0 : l ≠ []) (hp : ∀ x ∈ l, pl x = true) (hn : ns.length ≤ 63) (hl : t.length < 900000) : Mal (m__law_pick [.scr ns, .town, .lst l] ⟨some t⟩) fun d w => d ∈ l ∧ ∃ t', w = ⟨some t'⟩ ∧ t'.length ≤ t.length + 2 ∧ 0 < t'.length := by
  unfold m__law_pick
  rw [mal_mF (by rfl)]
  have hp0 : (0 : Int) < l.length := by cases l with | nil => exact absurd rfl hl0 | cons => simp only [List.length_cons]; omega
  unfold b__law_pick
  simp only [List.map_cons, List.map_nil, List.length_cons, List.length_nil, List.replicate, List.cons_append, List.nil_append]
  simp (config := { maxSteps := 3000000 }) (disch := ((try simp only [List.length_map, List.length_cons, List.length_nil, List.length_append, List.length_replicate, List.length_set]); omega)) only [e_seq, e_drop, e_act, e_var, e_cons, e_nil, e_c, bind_ok, bind_bad, bind_ex, al_bind, al_ok, al_ne, al_callR, e_rstown, e_rsown, e_fzcons, e_fznil, e_fzown, fz_non, fz_bl, fz_int, fz_str, fz_tup, fz_lst, fz_scr, fz_town, rs_non, rs_bl, rs_int, rs_str, rs_tup, rs_lst, rs_scr, e_appT, e_appO, e_extO, e_setO, e_setT, List.getElem?_cons_zero, List.getElem?_cons_succ, List.getElem?_nil, e_set, e_own, e_sub, e_asg, e_for, e_par, e_hnil, e_hva, e_how, puts_nil, puts_cons, e_cb, e_rslcons, e_rslnil, Option.bind_some, Option.map_some, lenF, opt_some, opt_none, put_mk, List.set_cons_succ, List.set_cons_zero, List.length_map, List.length_cons, List.length_nil, e_bin, e_call, e_tup, e_lst, e_sl, e_onone, e_osome, e_tru, e_of, e_band, e_bor, e_bnot, e_if, e_and, e_or, e_not, e_neg, e_chain, e_isi, e_next, e_sif, e_ret, e_comp, e_yes, e_iof, e_izip, e_rng1, e_rng2, e_name, e_pnil, e_pcons, e_ptup, o_add, o_sub, o_lt, o_le, o_gt, o_ge, o_eq, o_ne, finQ_ret, finQ_next, tupF, lstF, absF, intF, truD, itemsD, zipD, slD, o_mulL, o_mulR, o_div, o_mod, sz_le, sz_lt, o_addT, o_addL]
  refine (draw_ok ns t l.length hp0 hn hl).mono fun d w ⟨r, t', e1, e2, h1, h2, h3, h4⟩ => ?_
  subst e1 e2
  obtain ⟨x, hx, q⟩ := atI_mem h1 h2
  simp only [e_seq, e_drop, e_act, e_var, e_cons, e_nil, e_c, bind_ok, bind_bad, bind_ex, al_bind, al_ok, al_ne, al_callR, e_rstown, e_rsown, e_fzcons, e_fznil, e_fzown, fz_non, fz_bl, fz_int, fz_str, fz_tup, fz_lst, fz_scr, fz_town, rs_non, rs_bl, rs_int, rs_str, rs_tup, rs_lst, rs_scr, e_appT, e_appO, e_extO, e_setO, e_setT, List.getElem?_cons_zero, List.getElem?_cons_succ, List.getElem?_nil, e_set, e_own, e_sub, e_asg, e_for, e_par, e_hnil, e_hva, e_how, puts_nil, puts_cons, e_cb, e_rslcons, e_rslnil, Option.bind_some, Option.map_some, lenF, opt_some, opt_none, put_mk, List.set_cons_succ, List.set_cons_zero, List.length_map, List.length_cons, List.length_nil, e_bin, e_call, e_tup, e_lst, e_sl, e_onone, e_osome, e_tru, e_of, e_band, e_bor, e_bnot, e_if, e_and, e_or, e_not, e_neg, e_chain, e_isi, e_next, e_sif, e_ret, e_comp, e_yes, e_iof, e_izip, e_rng1, e_rng2, e_name, e_pnil, e_pcons, e_ptup, o_add, o_sub, o_lt, o_le, o_gt, o_ge, o_eq, o_ne, finQ_ret, finQ_next, tupF, lstF, absF, intF, truD, itemsD, zipD, slD, o_mulL, o_mulR, o_div, o_mod, sz_le, sz_lt, o_addT, o_addL, ixD, q, fz_pl (hp x hx)]
  exact ⟨hx, t', rfl, h3, h4⟩
/-- a colour -/
def IsCol (d : D) : Prop := ∃ r g b c : Int, d = .tup [.int r, .int g, .int b, .int c] ∧ (0 ≤ r ∧ r ≤ 255) ∧ (0 ≤ g ∧ g ≤ 255) ∧ (0 ≤ b ∧ b ≤ 255) ∧ 0 ≤ c ∧ c ≤ 255
theorem IsCol.pl {d : D} (h : IsCol d) : Pm.pl d = true := by obtain ⟨r, g, b, c, rfl, _⟩ := h; rfl
def IsPart (d : D) : Prop := ∃ r : Int, d = .int r ∧ 0 ≤ r ∧ r ≤ 255
theorem rng_nat (n : Nat) (h : n < 1000000) : rngL 0 n 1 = some ((List.range n).map fun k => .int k) := by
  unfold rngL
  rw [if_pos (by refine ⟨by decide, by decide, by omega, by omega, rfl⟩)]
  simp
theorem drawn_colour_ok (ns t : List Int) (hn : ns.length ≤ 63) (hl : t.length + 14 < 900000) : Mal (m__law_drawn_colour [.scr ns, .town] ⟨some t⟩) fun d w => IsCol d ∧ ∃ t', w = ⟨some t'⟩ ∧ t'.length ≤ t.length + 14 := by
  unfold m__law_drawn_colour
  rw [mal_mF (by rfl)]
  unfold b__law_drawn_colour
  simp only [List.map_cons, List.map_nil, List.length_cons, List.length_nil, List.replicate, List.cons_append, List.nil_append]
  simp (config := { maxSteps := 3000000 }) (disch := ((try simp only [List.length_map, List.length_cons, List.length_nil, List.length_append, List.length_replicate, List.length_set]); omega)) only [e_seq, e_drop, e_act, e_var, e_cons, e_nil, e_c, bind_ok, bind_bad, bind_ex, al_bind, al_ok, al_ne, al_callR, e_rstown, e_rsown, e_fzcons, e_fznil, e_fzown, fz_non, fz_bl, fz_int, fz_str, fz_tup, fz_lst, fz_scr, fz_town, rs_non, rs_bl, rs_int, rs_str, rs_tup, rs_lst, rs_scr, e_appT, e_appO, e_extO, e_setO, e_setT, List.getElem?_cons_zero, List.getElem?_cons_succ, List.getElem?_nil, e_set, e_own, e_sub, e_asg, e_for, e_par, e_hnil, e_hva, e_how, puts_nil, puts_cons, e_cb, e_rslcons, e_rslnil, Option.bind_some, Option.map_some, lenF, opt_some, opt_none, put_mk, List.set_cons_succ, List.set_cons_zero, List.length_map, List.length_cons, List.length_nil, e_bin, e_call, e_tup, e_lst, e_sl, e_onone, e_osome, e_tru, e_of, e_band, e_bor, e_bnot, e_if, e_and, e_or, e_not, e_neg, e_chain, e_isi, e_next, e_sif, e_ret, e_comp, e_yes, e_iof, e_izip, e_rng1, e_rng2, e_name, e_pnil, e_pcons, e_ptup, o_add, o_sub, o_lt, o_le, o_gt, o_ge, o_eq, o_ne, finQ_ret, finQ_next, tupF, lstF, absF, intF, truD, itemsD, zipD, slD, o_mulL, o_mulR, o_div, o_mod, sz_le, sz_lt, o_addT, o_addL]
  refine (draw_ok ns t 256 (by decide) hn (by omega)).mono fun d w ⟨r1, t1, e1, e2, a1, a2, a3, a4⟩ => ?_
  subst e1 e2
  simp (config := { maxSteps := 3000000 }) (disch := ((try simp only [List.length_map, List.length_cons, List.length_nil, List.length_append, List.length_replicate, List.length_set]); omega)) only [e_seq, e_drop, e_act, e_var, e_cons, e_nil, e_c, bind_ok, bind_bad, bind_ex, al_bind, al_ok, al_ne, al_callR, e_rstown, e_rsown, e_fzcons, e_fznil, e_fzown, fz_non, fz_bl, fz_int, fz_str, fz_tup, fz_lst, fz_scr, fz_town, rs_non, rs_bl, rs_int, rs_str, rs_tup, rs_lst, rs_scr, e_appT, e_appO, e_extO, e_setO, e_setT, List.getElem?_cons_zero, List.getElem?_cons_succ, List.getElem?_nil, e_set, e_own, e_sub, e_asg, e_for, e_par, e_hnil, e_hva, e_how, puts_nil, puts_cons, e_cb, e_rslcons, e_rslnil, Option.bind_some, Option.map_some, lenF, opt_some, opt_none, put_mk, List.set_cons_succ, List.set_cons_zero, List.length_map, List.length_cons, List.length_nil, e_bin, e_call, e_tup, e_lst, e_sl, e_onone, e_osome, e_tru, e_of, e_band, e_bor, e_bnot, e_if, e_and, e_or, e_not, e_neg, e_chain, e_isi, e_next, e_sif, e_ret, e_comp, e_yes, e_iof, e_izip, e_rng1, e_rng2, e_name, e_pnil, e_pcons, e_ptup, o_add, o_sub, o_lt, o_le, o_gt, o_ge, o_eq, o_ne, finQ_ret, finQ_next, tupF, lstF, absF, intF, truD, itemsD, zipD, slD, o_mulL, o_mulR, o_div, o_mod, sz_le, sz_lt, o_addT, o_addL]
  refine (draw_ok ns t1 256 (by decide) hn (by omega)).mono fun d w ⟨r2, t2, e1, e2, b1, b2, b3, b4⟩ => ?_
  subst e1 e2
  simp (config := { maxSteps := 3000000 }) (disch := ((try simp only [List.length_map, List.length_cons, List.length_nil, List.length_append, List.length_replicate, List.length_set]); omega)) only [e_seq, e_drop, e_act, e_var, e_cons, e_nil, e_c, bind_ok, bind_bad, bind_ex, al_bind, al_ok, al_ne, al_callR, e_rstown, e_rsown, e_fzcons, e_fznil, e_fzown, fz_non, fz_bl, fz_int, fz_str, fz_tup, fz_lst, fz_scr, fz_town, rs_non, rs_bl, rs_int, rs_str, rs_tup, rs_lst, rs_scr, e_appT, e_appO, e_extO, e_setO, e_setT, List.getElem?_cons_zero, List.getElem?_cons_succ, List.getElem?_nil, e_set, e_own, e_sub, e_asg, e_for, e_par, e_hnil, e_hva, e_how, puts_nil, puts_cons, e_cb, e_rslcons, e_rslnil, Option.bind_some, Option.map_some, lenF, opt_some, opt_none, put_mk, List.set_cons_succ, List.set_cons_zero, List.length_map, List.length_cons, List.length_nil, e_bin, e_call, e_tup, e_lst, e_sl, e_onone, e_osome, e_tru, e_of, e_band, e_bor, e_bnot, e_if, e_and, e_or, e_not, e_neg, e_chain, e_isi, e_next, e_sif, e_ret, e_comp, e_yes, e_iof, e_izip, e_rng1, e_rng2, e_name, e_pnil, e_pcons, e_ptup, o_add, o_sub, o_lt, o_le, o_gt, o_ge, o_eq, o_ne, finQ_ret, finQ_next, tupF, lstF, absF, intF, truD, itemsD, zipD, slD, o_mulL, o_mulR, o_div, o_mod, sz_le, sz_lt, o_addT, o_addL, show rngL 0 3 1 = some _ from rng_nat 3 (by decide)]
  have hs : ∀ x ∈ [D.int 0, .int 255, .int r1, .int r2], IsPart x := by
    intro x hx
    simp only [List.mem_cons, List.not_mem_nil, or_false] at hx
    rcases hx with rfl | rfl | rfl | rfl
    · exact ⟨0, rfl, by decide, by decide⟩
    · exact ⟨255, rfl, by decide, by decide⟩
    · exact ⟨r1, rfl, by omega, by omega⟩
    · exact ⟨r2, rfl, by omega, by omega⟩
  refine Res.al.mono (compL_dr (P := IsPart) (k := 2) (fun _ => rfl) _ t2 (by simp; omega) fun x hx t ht => ⟨_, rfl, ?_⟩) fun ds s q => ?_
  · simp only [e_seq, e_drop, e_act, e_var, e_cons, e_nil, e_c, bind_ok, bind_bad, bind_ex, al_bind, al_ok, al_ne, al_callR, e_rstown, e_rsown, e_fzcons, e_fznil, e_fzown, fz_non, fz_bl, fz_int, fz_str, fz_tup, fz_lst, fz_scr, fz_town, rs_non, rs_bl, rs_int, rs_str, rs_tup, rs_lst, rs_scr, e_appT, e_appO, e_extO, e_setO, e_setT, List.getElem?_cons_zero, List.getElem?_cons_succ, List.getElem?_nil, e_set, e_own, e_sub, e_asg, e_for, e_par, e_hnil, e_hva, e_how, puts_nil, puts_cons, e_cb, e_rslcons, e_rslnil, Option.bind_some, Option.map_some, lenF, opt_some, opt_none, put_mk, List.set_cons_succ, List.set_cons_zero, List.length_map, List.length_cons, List.length_nil, e_bin, e_call, e_tup, e_lst, e_sl, e_onone, e_osome, e_tru, e_of, e_band, e_bor, e_bnot, e_if, e_and, e_or, e_not, e_neg, e_chain, e_isi, e_next, e_sif, e_ret, e_comp, e_yes, e_iof, e_izip, e_rng1, e_rng2, e_name, e_pnil, e_pcons, e_ptup, o_add, o_sub, o_lt, o_le, o_gt, o_ge, o_eq, o_ne, finQ_ret, finQ_next, tupF, lstF, absF, intF, truD, itemsD, zipD, slD, o_mulL, o_mulR, o_div, o_mod, sz_le, sz_lt, o_addT, o_addL, wipeS, put_mk, List.set_cons_succ, List.set_cons_zero]
    refine (pick_ok ns t _ (by simp) (fun x hx => ?_) hn (by omega)).mono fun d w ⟨h1, t', h2, h3, h4⟩ => ?_
    · obtain ⟨r, rfl, _⟩ := hs x hx; rfl
    · subst h2
      obtain ⟨r, rfl, h5⟩ := hs d h1
      exact ⟨rfl, ⟨r, rfl, h5⟩, t', rfl, h3⟩
  · obtain ⟨q1, q2, t3, q3, q4⟩ := q
    subst q3
    match ds, q2 with
    | [d1, d2, d3], _ =>
      obtain ⟨x1, rfl, c1⟩ := q1 d1 (by simp)
      obtain ⟨x2, rfl, c2⟩ := q1 d2 (by simp)
      obtain ⟨x3, rfl, c3⟩ := q1 d3 (by simp)
      simp at q4
      simp (config := { maxSteps := 3000000 }) (disch := ((try simp only [List.length_map, List.length_cons, List.length_nil, List.length_append, List.length_replicate, List.length_set]); omega)) only [e_seq, e_drop, e_act, e_var, e_cons, e_nil, e_c, bind_ok, bind_bad, bind_ex, al_bind, al_ok, al_ne, al_callR, e_rstown, e_rsown, e_fzcons, e_fznil, e_fzown, fz_non, fz_bl, fz_int, fz_str, fz_tup, fz_lst, fz_scr, fz_town, rs_non, rs_bl, rs_int, rs_str, rs_tup, rs_lst, rs_scr, e_appT, e_appO, e_extO, e_setO, e_setT, List.getElem?_cons_zero, List.getElem?_cons_succ, List.getElem?_nil, e_set, e_own, e_sub, e_asg, e_for, e_par, e_hnil, e_hva, e_how, puts_nil, puts_cons, e_cb, e_rslcons, e_rslnil, Option.bind_some, Option.map_some, lenF, opt_some, opt_none, put_mk, List.set_cons_succ, List.set_cons_zero, List.length_map, List.length_cons, List.length_nil, e_bin, e_call, e_tup, e_lst, e_sl, e_onone, e_osome, e_tru, e_of, e_band, e_bor, e_bnot, e_if, e_and, e_or, e_not, e_neg, e_chain, e_isi, e_next, e_sif, e_ret, e_comp, e_yes, e_iof, e_izip, e_rng1, e_rng2, e_name, e_pnil, e_pcons, e_ptup, o_add, o_sub, o_lt, o_le, o_gt, o_ge, o_eq, o_ne, finQ_ret, finQ_next, tupF, lstF, absF, intF, truD, itemsD, zipD, slD, o_mulL, o_mulR, o_div, o_mod, sz_le, sz_lt, o_addT, o_addL, ixD, show atI [D.int x1, .int x2, .int x3] 0 = some (.int x1) from rfl, show atI [D.int x1, .int x2, .int x3] 1 = some (.int x2) from rfl, show atI [D.int x1, .int x2, .int x3] 2 = some (.int x3) from rfl]
      refine (draw_ok ns t3 256 (by decide) hn (by omega)).mono fun d w ⟨r4, t4, e1, e2, g1, g2, g3, g4⟩ => ?_
      subst e1 e2
      simp (config := { maxSteps := 3000000 }) (disch := ((try simp only [List.length_map, List.length_cons, List.length_nil, List.length_append, List.length_replicate, List.length_set]); omega)) only [e_seq, e_drop, e_act, e_var, e_cons, e_nil, e_c, bind_ok, bind_bad, bind_ex, al_bind, al_ok, al_ne, al_callR, e_rstown, e_rsown, e_fzcons, e_fznil, e_fzown, fz_non, fz_bl, fz_int, fz_str, fz_tup, fz_lst, fz_scr, fz_town, rs_non, rs_bl, rs_int, rs_str, rs_tup, rs_lst, rs_scr, e_appT, e_appO, e_extO, e_setO, e_setT, List.getElem?_cons_zero, List.getElem?_cons_succ, List.getElem?_nil, e_set, e_own, e_sub, e_asg, e_for, e_par, e_hnil, e_hva, e_how, puts_nil, puts_cons, e_cb, e_rslcons, e_rslnil, Option.bind_some, Option.map_some, lenF, opt_some, opt_none, put_mk, List.set_cons_succ, List.set_cons_zero, List.length_map, List.length_cons, List.length_nil, e_bin, e_call, e_tup, e_lst, e_sl, e_onone, e_osome, e_tru, e_of, e_band, e_bor, e_bnot, e_if, e_and, e_or, e_not, e_neg, e_chain, e_isi, e_next, e_sif, e_ret, e_comp, e_yes, e_iof, e_izip, e_rng1, e_rng2, e_name, e_pnil, e_pcons, e_ptup, o_add, o_sub, o_lt, o_le, o_gt, o_ge, o_eq, o_ne, finQ_ret, finQ_next, tupF, lstF, absF, intF, truD, itemsD, zipD, slD, o_mulL, o_mulR, o_div, o_mod, sz_le, sz_lt, o_addT, o_addL]
      have hs2 : ∀ x ∈ [D.int 255, .int 255, .int 0, .int r4], IsPart x := by
        intro x hx
        simp only [List.mem_cons, List.not_mem_nil, or_false] at hx
        rcases hx with rfl | rfl | rfl | rfl
        · exact ⟨255, rfl, by decide, by decide⟩
        · exact ⟨255, rfl, by decide, by decide⟩
        · exact ⟨0, rfl, by decide, by decide⟩
        · exact ⟨r4, rfl, by omega, by omega⟩
      refine (pick_ok ns t4 _ (by simp) (fun x hx => ?_) hn (by omega)).mono fun d w ⟨h1, t', h2, h3, h4⟩ => ?_
      · obtain ⟨r, rfl, _⟩ := hs2 x hx; rfl
      · subst h2
        obtain ⟨x4, rfl, c4⟩ := hs2 d h1
        simp (config := { maxSteps := 3000000 }) (disch := ((try simp only [List.length_map, List.length_cons, List.length_nil, List.length_append, List.length_replicate, List.length_set]); omega)) only [e_seq, e_drop, e_act, e_var, e_cons, e_nil, e_c, bind_ok, bind_bad, bind_ex, al_bind, al_ok, al_ne, al_callR, e_rstown, e_rsown, e_fzcons, e_fznil, e_fzown, fz_non, fz_bl, fz_int, fz_str, fz_tup, fz_lst, fz_scr, fz_town, rs_non, rs_bl, rs_int, rs_str, rs_tup, rs_lst, rs_scr, e_appT, e_appO, e_extO, e_setO, e_setT, List.getElem?_cons_zero, List.getElem?_cons_succ, List.getElem?_nil, e_set, e_own, e_sub, e_asg, e_for, e_par, e_hnil, e_hva, e_how, puts_nil, puts_cons, e_cb, e_rslcons, e_rslnil, Option.bind_some, Option.map_some, lenF, opt_some, opt_none, put_mk, List.set_cons_succ, List.set_cons_zero, List.length_map, List.length_cons, List.length_nil, e_bin, e_call, e_tup, e_lst, e_sl, e_onone, e_osome, e_tru, e_of, e_band, e_bor, e_bnot, e_if, e_and, e_or, e_not, e_neg, e_chain, e_isi, e_next, e_sif, e_ret, e_comp, e_yes, e_iof, e_izip, e_rng1, e_rng2, e_name, e_pnil, e_pcons, e_ptup, o_add, o_sub, o_lt, o_le, o_gt, o_ge, o_eq, o_ne, finQ_ret, finQ_next, tupF, lstF, absF, intF, truD, itemsD, zipD, slD, o_mulL, o_mulR, o_div, o_mod, sz_le, sz_lt, o_addT, o_addL]
        exact ⟨⟨x1, x2, x3, x4, rfl, c1, c2, c3, c4⟩, t', rfl, by omega⟩
end Pm
namespace Pm
open PySem PySem.Spec PyProof.Rows L2
theorem eq_of_mal {o : Option Rt} {x : D} {w : W} (h : Mal o fun d w' => d = x ∧ w' = w) : o = some (.val x w) := by
  obtain ⟨d, w', rfl, rfl, rfl⟩ := h.get
  rfl
def b_rounded : Sn := (sRet (dBin fdivD (dBin addD (dBin mulD (dC (.int 2)) (dVar 0)) (dVar 1)) (dBin mulD (dC (.int 2)) (dVar 1))))
def m_rounded : Mf := mF 2 2 b_rounded
def b_grey : Sn := (sSeq (sAsg (pTup 4 (pCons (pName 1) (pCons (pName 2) (pCons (pName 3) (pCons (pName 4) pNil))))) (dVar 0))
  (sSeq (sSet 5 (dCall m_rounded (aCons (dBin addD (dBin addD (dBin mulD (dC (.int 299)) (dVar 1)) (dBin mulD (dC (.int 587)) (dVar 2))) (dBin mulD (dC (.int 114)) (dVar 3))) (aCons (dC (.int 1000)) aNil))))
  (sRet (dTup (aCons (dVar 5) (aCons (dVar 5) (aCons (dVar 5) (aCons (dVar 4) aNil))))))))
def m_grey : Mf := mF 1 6 b_grey
def rnd (a b : Int) : Int := (2 * a + b) / (2 * b)
theorem rounded_eq {a b : Int} {w : W} (h1 : 0 < b) (h2 : b < 500000000) : m_rounded [.int a, .int b] w = some (.val (.int (rnd a b)) w) := by
  apply eq_of_mal
  unfold m_rounded
  rw [mal_mF (by rfl)]
  unfold b_rounded
  simp only [List.map_cons, List.map_nil, List.length_cons, List.length_nil, List.replicate, List.cons_append, List.nil_append]
  simp (config := { maxSteps := 3000000 }) (disch := ((try simp only [List.length_map, List.length_cons, List.length_nil, List.length_append, List.length_replicate, List.length_set]); omega)) only [e_seq, e_drop, e_act, e_var, e_cons, e_nil, e_c, bind_ok, bind_bad, bind_ex, al_bind, al_ok, al_ne, al_callR, e_rstown, e_rsown, e_fzcons, e_fznil, e_fzown, fz_non, fz_bl, fz_int, fz_str, fz_tup, fz_lst, fz_scr, fz_town, rs_non, rs_bl, rs_int, rs_str, rs_tup, rs_lst, rs_scr, e_appT, e_appO, e_extO, e_setO, e_setT, List.getElem?_cons_zero, List.getElem?_cons_succ, List.getElem?_nil, e_set, e_own, e_sub, e_asg, e_for, e_par, e_hnil, e_hva, e_how, puts_nil, puts_cons, e_cb, e_rslcons, e_rslnil, Option.bind_some, Option.map_some, lenF, opt_some, opt_none, put_mk, List.set_cons_succ, List.set_cons_zero, List.length_map, List.length_cons, List.length_nil, e_bin, e_call, e_tup, e_lst, e_sl, e_onone, e_osome, e_tru, e_of, e_band, e_bor, e_bnot, e_if, e_and, e_or, e_not, e_neg, e_chain, e_isi, e_next, e_sif, e_ret, e_comp, e_yes, e_iof, e_izip, e_rng1, e_rng2, e_name, e_pnil, e_pcons, e_ptup, o_add, o_sub, o_lt, o_le, o_gt, o_ge, o_eq, o_ne, finQ_ret, finQ_next, tupF, lstF, absF, intF, truD, itemsD, zipD, slD, o_mulL, o_mulR, o_div, o_mod, sz_le, sz_lt, o_addT, o_addL]
  exact ⟨rfl, trivial⟩
def greyI (r g b : Int) : Int := rnd (299 * r + 587 * g + 114 * b) 1000
theorem grey_eq {r g b c : Int} {w : W} : m_grey [.tup [.int r, .int g, .int b, .int c]] w = some (.val (.tup [.int (greyI r g b), .int (greyI r g b), .int (greyI r g b), .int c]) w) := by
  apply eq_of_mal
  unfold m_grey
  rw [mal_mF (by rfl)]
  unfold b_grey
  simp only [List.map_cons, List.map_nil, List.length_cons, List.length_nil, List.replicate, List.cons_append, List.nil_append]
  simp (config := { maxSteps := 3000000 }) (disch := ((try simp only [List.length_map, List.length_cons, List.length_nil, List.length_append, List.length_replicate, List.length_set]); omega)) only [e_seq, e_drop, e_act, e_var, e_cons, e_nil, e_c, bind_ok, bind_bad, bind_ex, al_bind, al_ok, al_ne, al_callR, e_rstown, e_rsown, e_fzcons, e_fznil, e_fzown, fz_non, fz_bl, fz_int, fz_str, fz_tup, fz_lst, fz_scr, fz_town, rs_non, rs_bl, rs_int, rs_str, rs_tup, rs_lst, rs_scr, e_appT, e_appO, e_extO, e_setO, e_setT, List.getElem?_cons_zero, List.getElem?_cons_succ, List.getElem?_nil, e_set, e_own, e_sub, e_asg, e_for, e_par, e_hnil, e_hva, e_how, puts_nil, puts_cons, e_cb, e_rslcons, e_rslnil, Option.bind_some, Option.map_some, lenF, opt_some, opt_none, put_mk, List.set_cons_succ, List.set_cons_zero, List.length_map, List.length_cons, List.length_nil, e_bin, e_call, e_tup, e_lst, e_sl, e_onone, e_osome, e_tru, e_of, e_band, e_bor, e_bnot, e_if, e_and, e_or, e_not, e_neg, e_chain, e_isi, e_next, e_sif, e_ret, e_comp, e_yes, e_iof, e_izip, e_rng1, e_rng2, e_name, e_pnil, e_pcons, e_ptup, o_add, o_sub, o_lt, o_le, o_gt, o_ge, o_eq, o_ne, finQ_ret, finQ_next, tupF, lstF, absF, intF, truD, itemsD, zipD, slD, o_mulL, o_mulR, o_div, o_mod, sz_le, sz_lt, o_addT, o_addL, if_true, rounded_eq, Mal_val]
  exact ⟨rfl, trivial⟩
end Pm
namespace Pm
open PySem PySem.Spec PyProof.Rows L2
/-! ### loops, comprehensions item by item -/
theorem forL_al {p : Gn} {b : Sn} {Q : Fl → S → Prop} (I : List D → S → Prop) (hs : ∀ x r s, I (x :: r) s → ∃ s1, p x s = some s1 ∧ (b s1).al fun fl s2 => (fl = .next ∨ fl = .cont) ∧ I r s2) (hd : ∀ s, I [] s → Q .next s) : ∀ (items : List D) (s : S), I items s → (forL p b items s).al Q
  | [], s, h => hd s h
  | x :: r, s, h => by
    obtain ⟨s1, h1, h2⟩ := hs x r s h
    obtain ⟨fl, s2, h3, h4, h5⟩ := h2.get
    unfold forL
    rw [h1]
    simp only [h3, bind_ok]
    rcases h4 with rfl | rfl <;> exact forL_al I hs hd r s2 h5
def slNo : Option Sl → Bool
  | some (.ow _) => false
  | _ => true
theorem e_nonil (s : S) : noOw [] s = true := rfl
theorem e_nocons (v : Nat) (vs : List Nat) (l : List Sl) (w : W) : noOw (v :: vs) ⟨l, w⟩ = (slNo l[v]? && noOw vs ⟨l, w⟩) := rfl
theorem slNo_no : slNo (some .no) = true := rfl
theorem slNo_va (d : D) : slNo (some (.va d)) = true := rfl
theorem e_wnil (s : S) : wipeS [] s = s := rfl
theorem e_wcons (v : Nat) (vs : List Nat) (s : S) : wipeS (v :: vs) s = put v .no (wipeS vs s) := rfl
theorem e_bnil (s0 s : S) : backS [] s0 s = s := rfl
theorem e_bcons (v : Nat) (vs : List Nat) (l : List Sl) (w : W) (s : S) : backS (v :: vs) ⟨l, w⟩ s = put v (l.getD v .no) (backS vs ⟨l, w⟩ s) := rfl
theorem e_cnil (vs : List Nat) (p : Gn) (c : Bn) (f : Dn) (s : S) : compL vs p c f [] s = .ok [] s := rfl
theorem e_ccons (vs : List Nat) (p : Gn) (c : Bn) (f : Dn) (x : D) (xs : List D) (l : List Sl) (w : W) : compL vs p c f (x :: xs) ⟨l, w⟩ = if noOw vs ⟨l, w⟩ = true then (match p x (wipeS vs ⟨l, w⟩) with
      | none => .bad
      | some s1 => (c s1).ne.bind fun k s2 => if k = true then (f s2).ne.bind fun d s3 => (fz d s3).bind fun d' s4 => (compL vs p c f xs (backS vs ⟨l, w⟩ s4)).bind fun r s5 => .ok (d' :: r) s5
          else compL vs p c f xs (backS vs ⟨l, w⟩ s2)) else .bad := rfl
theorem e_znil (ys : List D) : zipL [] ys = [] := rfl
theorem e_zcons (x y : D) (xs ys : List D) : zipL (x :: xs) (y :: ys) = .tup [x, y] :: zipL xs ys := rfl
/-! equality of data -/
theorem o_neT {x y : D} (h : okd 40 x = true) (h' : okd 40 y = true) : neD x y = some (.bl (!deq x y)) := by unfold neD; rw [if_pos (.inr ⟨h, h'⟩)]
theorem o_eqT {x y : D} (h : okd 40 x = true) (h' : okd 40 y = true) : eqD x y = some (.bl (deq x y)) := by unfold eqD; rw [if_pos (.inr ⟨h, h'⟩)]
theorem deq_int (i j : Int) : deq (.int i) (.int j) = (i == j) := by unfold deq; rfl
theorem deq_tup (x y : List D) : deq (.tup x) (.tup y) = deqs x y := by unfold deq; rfl
theorem deq_lst (x y : List D) : deq (.lst x) (.lst y) = deqs x y := by unfold deq; rfl
theorem deqs_nil : deqs [] [] = true := by unfold deqs; rfl
theorem deqs_cons (x y : D) (xs ys : List D) : deqs (x :: xs) (y :: ys) = (deq x y && deqs xs ys) := by rw [deqs]
theorem okd_int (n : Nat) (i : Int) : okd n (.int i) = true := by unfold okd; rfl
theorem okd_tup (n : Nat) (l : List D) : okd (n + 1) (.tup l) = l.all (okd n) := by rw [okd]
/-! slices -/
theorem cut_hi (xs : List D) (n : Nat) : cutL xs none (some (n : Int)) = xs.take n := by
  unfold cutL
  rw [HT.sIx_none, HT.sIx_nat, Nat.sub_zero]
  simp only [List.drop_zero]
  rw [List.take_eq_take_iff]; omega
end Pm
/-! ### zip over any two sources: next, next while the tuple is held, list(zip(..)) -/
namespace Pm
open PySem PySem.Spec PyProof.Rows L2 RZ PySem.W

structure Ap (z TI TO i1 i2 : Addr) (f1 f2 : List Addr) : Prop where
  TIz : TI ≠ z
  TOz : TO ≠ z
  i1z : i1 ≠ z
  i2z : i2 ≠ z
  TITO : TI ≠ TO
  TIi1 : TI ≠ i1
  TIi2 : TI ≠ i2
  TOi1 : TO ≠ i1
  TOi2 : TO ≠ i2
  i12 : i1 ≠ i2
  z1 : z ∉ f1
  o1 : TO ∉ f1
  j1 : i2 ∉ f1
  z2 : z ∉ f2
  o2 : TO ∉ f2
  j2 : i1 ∉ f2
section
variable {prog : Program} {w : World} {A : Around} {E : Value → Shared → Prop} {s : Shared} {z TI TO i1 i2 : Addr} {f1 f2 : List Addr} {n1 n2 k : Nat} {P1 P2 : Nat → Value → Prop} {S1 S2 : Nat → Heap → Prop}
theorem ne_mem {c b : Addr} {f : List Addr} (h : c ∉ f) (hb : b ∈ f) : b ≠ c := fun e => h (e ▸ hb)
theorem frB (D : Draws prog w A i1 f1 n1 P1 S1) {c : Addr} {h h' : Heap} {i : Nat} (hc : c ∉ f1) (hs : Heap.SameBut c h h') (st : S1 i h) : S1 i h' := D.frame _ _ _ st fun b hb o e => hs.extBut b o (ne_mem hc hb) e
theorem zipG_item {a b : Value} {Q : Value → Shared → Prop} (D1 : Draws prog w A i1 f1 n1 P1 S1) (D2 : Draws prog w A i2 f2 n2 P2 S2) (D : Ap z TI TO i1 i2 f1 f2)
    (hz : IsZip s.heap z TI TO .none) (hTI : IsPair s.heap TI (.ref i1) (.ref i2)) (hTO : IsPair s.heap TO a b) (h1 : S1 k s.heap) (h2 : S2 k s.heap) (k1 : k < n1) (k2 : k < n2)
    (hQ : ∀ x y h' tk, P1 k x → P2 k y → IsZip h' z TI TO (rawInt s.heap.objs.size) → IsPair h' TO x y → S1 (k + 1) h' → S2 (k + 1) h' → IsPair h' s.heap.objs.size x y → h'.objs.size = s.heap.objs.size + 1 →
      (∀ c o, c ≠ z → c ≠ TO → c ≠ i1 → c ≠ i2 → s.heap.get? c = some o → h'.get? c = some o) → Q (.ref s.heap.objs.size) { s with heap := h', toks := tk }) :
    wpAny (model prog w) A (Builtin.«zip.__next__» ⟨[.ref z], []⟩) (fun fin s' => ∃ v, fin = .done (.ret v) ∧ Q v s') E s := by
  show wpAny _ _ (field (.ref z) 2 >>= _) _ _ _
  refine wpAny_bind (wpAny_field hz rfl (x := .bool false) rfl ?_)
  show wpAny _ _ (field (.ref z) 3 >>= _) _ _ _
  refine wpAny_bind (wpAny_field hz rfl (x := .ref TI) rfl ?_)
  refine wpAny_bind (wpAny_seqItems hTI rfl ?_)
  show wpAny _ _ (Builtin.SmallTypes.ownedTupleIsFree (.ref z) >>= _) _ _ _
  refine wpAny_bind ?_
  unfold Builtin.SmallTypes.ownedTupleIsFree
  refine wpAny_bind (wpAny_field hz rfl (x := .none) rfl (wpAny_pure ?_))
  simp only [if_true]
  refine wpAny_bind (wpAny_rule ?_)
  refine wpAny_bind (wpAny_field hz rfl (x := .ref TO) rfl ?_)
  refine wpAny_bind (wpAny_setField_rec hz (by simp) fun h₁ hz₁ hs₁ => ?_)
  replace hz₁ : IsZip h₁ z TI TO .ellipsis := hz₁
  refine wpAny_bind ?_
  simp only [List.zipIdx_cons, List.zipIdx_nil, List.forIn_cons, List.forIn_nil]
  refine wpAny_bind (wpAny_bind (wpAny_onRaise ?_))
  show wpAny _ _ (Builtin.SmallTypes.nextOf (.ref i1) >>= _) _ _ _
  refine wpAny_bind (D1.item k { s with heap := h₁ } _ _ k1 (frB D1 D.z1 hs₁ h1) fun x h₂ tk₂ hx h1₂ hs₂ => wpAny_pure ?_)
  replace hs₂ : Heap.SameBut i1 h₁ h₂ := hs₂
  have hTO₂ : IsPair h₂ TO a b := hs₂.extBut _ _ D.TOi1 (hs₁.extBut _ _ D.TOz hTO)
  refine wpAny_bind (wpAny_seqItems hTO₂ rfl ?_)
  refine wpAny_bind (wpAny_updateSeq_pair hTO₂ fun h₃ hTO₃ hs₃ => ?_)
  replace hTO₃ : IsPair h₃ TO x b := hTO₃
  replace hs₃ : Heap.SameBut TO h₂ h₃ := hs₃
  refine wpAny_bind (wpAny_letGo (wpAny_pure ?_))
  refine wpAny_bind (wpAny_bind (wpAny_onRaise ?_))
  show wpAny _ _ (Builtin.SmallTypes.nextOf (.ref i2) >>= _) _ _ _
  refine wpAny_bind (D2.item k { s with heap := h₃, toks := tk₂ } _ _ k2 (frB D2 D.o2 hs₃ (frB D2 D.j2 hs₂ (frB D2 D.z2 hs₁ h2))) fun y h₄ tk₄ hy h2₄ hs₄ => wpAny_pure ?_)
  replace hs₄ : Heap.SameBut i2 h₃ h₄ := hs₄
  have hTO₄ : IsPair h₄ TO x b := hs₄.extBut _ _ D.TOi2 hTO₃
  refine wpAny_bind (wpAny_seqItems hTO₄ rfl ?_)
  refine wpAny_bind (wpAny_updateSeq_pair hTO₄ fun h₅ hTO₅ hs₅ => ?_)
  replace hTO₅ : IsPair h₅ TO x y := hTO₅
  replace hs₅ : Heap.SameBut TO h₄ h₅ := hs₅
  refine wpAny_bind (wpAny_letGo (wpAny_pure (wpAny_pure ?_)))
  refine wpAny_bind (wpAny_seqItems hTO₅ rfl ?_)
  refine wpAny_bind (wpAny_newTuple ?_)
  have hsz : h₅.objs.size = s.heap.objs.size := by rw [hs₅.1, hs₄.1, hs₃.1, hs₂.1, hs₁.1]
  have hz₅ : IsZip h₅ z TI TO .ellipsis := hs₅.extBut _ _ D.TOz.symm (hs₄.extBut _ _ D.i2z.symm (hs₃.extBut _ _ D.TOz.symm (hs₂.extBut _ _ D.i1z.symm hz₁)))
  have hk₅ : ∀ c o, c ≠ z → c ≠ TO → c ≠ i1 → c ≠ i2 → s.heap.get? c = some o → h₅.get? c = some o := fun c o c1 c2 c3 c4 e =>
    hs₅.extBut _ _ c2 (hs₄.extBut _ _ c4 (hs₃.extBut _ _ c2 (hs₂.extBut _ _ c3 (hs₁.extBut _ _ c1 e))))
  have h1₅ : S1 (k + 1) h₅ := frB D1 D.o1 hs₅ (frB D1 D.j1 hs₄ (frB D1 D.o1 hs₃ h1₂))
  have h2₅ : S2 (k + 1) h₅ := frB D2 D.o2 hs₅ h2₄
  have hzlt : z < h₅.objs.size := Heap.lt_size hz₅
  show wpAny _ _ (Builtin.SmallTypes.ownedTupleHandOut (.ref z) (.ref h₅.objs.size) >>= _) _ _ _
  refine wpAny_bind ?_
  unfold Builtin.SmallTypes.ownedTupleHandOut
  have hz₆ : IsZip (h₅.push { cls := .type "tuple", data := .seq #[x, y] }) z TI TO .ellipsis := Heap.get?_push_of_some _ hz₅
  refine wpAny_bind (wpAny_setField_rec hz₆ (by simp) fun h₇ hz₇ hs₇ => ?_)
  replace hz₇ : IsZip h₇ z TI TO (rawInt h₅.objs.size) := hz₇
  refine wpAny_setField_rec hz₇ (by simp) fun h₈ hz₈ hs₈ => ?_
  replace hz₈ : IsZip h₈ z TI TO (rawInt h₅.objs.size) := hz₈
  have up : ∀ c o, c ≠ z → h₅.get? c = some o → h₈.get? c = some o := fun c o c1 e => hs₈.extBut _ _ c1 (hs₇.extBut _ _ c1 (Heap.get?_push_of_some _ e))
  have hT₈ : IsPair h₈ h₅.objs.size x y := hs₈.extBut _ _ (Nat.ne_of_gt hzlt) (hs₇.extBut _ _ (Nat.ne_of_gt hzlt) (Heap.get?_push_size _ rfl))
  have hz8 : h₈.objs.size = h₅.objs.size + 1 := by rw [hs₈.1, hs₇.1, Heap.size_push]
  rw [hsz] at hz₈ hT₈ hz8
  refine wpAny_pure ⟨_, rfl, ?_⟩
  show Q (.ref h₅.objs.size) _
  rw [hsz]
  exact hQ x y h₈ _ hx hy hz₈ (up _ _ D.TOz hTO₅) (D1.frame _ _ _ h1₅ fun b hb o e => up _ o (ne_mem D.z1 hb) e) (D2.frame _ _ _ h2₅ fun b hb o e => up _ o (ne_mem D.z2 hb) e) hT₈ hz8 fun c o c1 c2 c3 c4 e => up c o c1 (hk₅ c o c1 c2 c3 c4 e)
theorem zipG_end {a b : Value} {Q : Fin → Shared → Prop} (D1 : Draws prog w A i1 f1 n1 P1 S1) (D2 : Draws prog w A i2 f2 n2 P2 S2) (D : Ap z TI TO i1 i2 f1 f2)
    (hz : IsZip s.heap z TI TO .none) (hTI : IsPair s.heap TI (.ref i1) (.ref i2)) (hTO : IsPair s.heap TO a b) (h1 : S1 k s.heap) (h2 : S2 k s.heap) (hend : k = n1 ∨ (k < n1 ∧ k = n2))
    (hE : ∀ h' e tk, (∀ c o, c ≠ z → c ≠ TO → c ≠ i1 → c ≠ i2 → s.heap.get? c = some o → h'.get? c = some o) → (∃ o, h'.get? e = some o ∧ o.cls = .type "StopIteration") → E (.ref e) { s with heap := h', toks := tk }) :
    wpAny (model prog w) A (Builtin.«zip.__next__» ⟨[.ref z], []⟩) Q E s := by
  show wpAny _ _ (field (.ref z) 2 >>= _) _ _ _
  refine wpAny_bind (wpAny_field hz rfl (x := .bool false) rfl ?_)
  show wpAny _ _ (field (.ref z) 3 >>= _) _ _ _
  refine wpAny_bind (wpAny_field hz rfl (x := .ref TI) rfl ?_)
  refine wpAny_bind (wpAny_seqItems hTI rfl ?_)
  show wpAny _ _ (Builtin.SmallTypes.ownedTupleIsFree (.ref z) >>= _) _ _ _
  refine wpAny_bind ?_
  unfold Builtin.SmallTypes.ownedTupleIsFree
  refine wpAny_bind (wpAny_field hz rfl (x := .none) rfl (wpAny_pure ?_))
  simp only [if_true]
  refine wpAny_bind (wpAny_rule ?_)
  refine wpAny_bind (wpAny_field hz rfl (x := .ref TO) rfl ?_)
  refine wpAny_bind (wpAny_setField_rec hz (by simp) fun h₁ hz₁ hs₁ => ?_)
  replace hz₁ : IsZip h₁ z TI TO .ellipsis := hz₁
  refine wpAny_bind ?_
  simp only [List.zipIdx_cons, List.zipIdx_nil, List.forIn_cons, List.forIn_nil]
  refine wpAny_bind (wpAny_bind (wpAny_onRaise ?_))
  show wpAny _ _ (Builtin.SmallTypes.nextOf (.ref i1) >>= _) _ _ _
  rcases hend with rfl | ⟨k1, rfl⟩
  · refine wpAny_bind (D1.done { s with heap := h₁ } _ _ (frB D1 D.z1 hs₁ h1) fun h₂ e hs₂ he => ?_)
    replace hs₂ : Heap.ExtBut i1 h₁ h₂ := hs₂
    obtain ⟨oe, hoe, hce⟩ := he
    have hz₂ : IsZip h₂ z TI TO .ellipsis := hs₂ _ _ D.i1z.symm hz₁
    have hez : e ≠ z := fun x => by subst x; rw [hz₂] at hoe; cases hoe; simp at hce
    refine wpAny_setField_rec hz₂ (by simp) fun h₃ _ hs₃ => hE h₃ e _ (fun c o c1 _ c3 _ x => hs₃.extBut _ _ c1 (hs₂ _ _ c3 (hs₁.extBut _ _ c1 x))) ⟨oe, hs₃.extBut _ _ hez hoe, hce⟩
  · refine wpAny_bind (D1.item k { s with heap := h₁ } _ _ k1 (frB D1 D.z1 hs₁ h1) fun x h₂ tk₂ hx h1₂ hs₂ => wpAny_pure ?_)
    replace hs₂ : Heap.SameBut i1 h₁ h₂ := hs₂
    have hTO₂ : IsPair h₂ TO a b := hs₂.extBut _ _ D.TOi1 (hs₁.extBut _ _ D.TOz hTO)
    refine wpAny_bind (wpAny_seqItems hTO₂ rfl ?_)
    refine wpAny_bind (wpAny_updateSeq_pair hTO₂ fun h₃ hTO₃ hs₃ => ?_)
    replace hs₃ : Heap.SameBut TO h₂ h₃ := hs₃
    refine wpAny_bind (wpAny_letGo (wpAny_pure ?_))
    refine wpAny_bind (wpAny_bind (wpAny_onRaise ?_))
    show wpAny _ _ (Builtin.SmallTypes.nextOf (.ref i2) >>= _) _ _ _
    refine wpAny_bind (D2.done { s with heap := h₃, toks := tk₂ } _ _ (frB D2 D.o2 hs₃ (frB D2 D.j2 hs₂ (frB D2 D.z2 hs₁ h2))) fun h₄ e hs₄ he => ?_)
    replace hs₄ : Heap.ExtBut i2 h₃ h₄ := hs₄
    obtain ⟨oe, hoe, hce⟩ := he
    have hz₄ : IsZip h₄ z TI TO .ellipsis := hs₄ _ _ D.i2z.symm (hs₃.extBut _ _ D.TOz.symm (hs₂.extBut _ _ D.i1z.symm hz₁))
    have hez : e ≠ z := fun x => by subst x; rw [hz₄] at hoe; cases hoe; simp at hce
    refine wpAny_setField_rec hz₄ (by simp) fun h₅ _ hs₅ => hE h₅ e _ (fun c o c1 c2 c3 c4 x => hs₅.extBut _ _ c1 (hs₄ _ _ c4 (hs₃.extBut _ _ c2 (hs₂.extBut _ _ c3 (hs₁.extBut _ _ c1 x))))) ⟨oe, hs₅.extBut _ _ hez hoe, hce⟩
theorem zipG_item_held {T : Addr} {f : Bool} {oT : Obj} {Q : Value → Shared → Prop} (D1 : Draws prog w A i1 f1 n1 P1 S1) (D2 : Draws prog w A i2 f2 n2 P2 S2) (D : Ap z TI TO i1 i2 f1 f2)
    (hz : IsZipHeld s.heap z TI TO T f) (hT : s.heap.get? T = some oT) (hTI : IsPair s.heap TI (.ref i1) (.ref i2)) (h1 : S1 k s.heap) (h2 : S2 k s.heap) (k1 : k < n1) (k2 : k < n2)
    (hQ : ∀ x y h' tk, P1 k x → P2 k y → IsZipHeld h' z TI TO T true → S1 (k + 1) h' → S2 (k + 1) h' → IsPair h' s.heap.objs.size x y → h'.objs.size = s.heap.objs.size + 1 →
      (∀ c o, c ≠ z → c ≠ i1 → c ≠ i2 → s.heap.get? c = some o → h'.get? c = some o) → Q (.ref s.heap.objs.size) { s with heap := h', toks := tk }) :
    wpAny (model prog w) A (Builtin.«zip.__next__» ⟨[.ref z], []⟩) (fun fin s' => ∃ v, fin = .done (.ret v) ∧ Q v s') E s := by
  show wpAny _ _ (field (.ref z) 2 >>= _) _ _ _
  refine wpAny_bind (wpAny_field hz rfl (x := .bool false) rfl ?_)
  show wpAny _ _ (field (.ref z) 3 >>= _) _ _ _
  refine wpAny_bind (wpAny_field hz rfl (x := .ref TI) rfl ?_)
  refine wpAny_bind (wpAny_seqItems hTI rfl ?_)
  show wpAny _ _ (Builtin.SmallTypes.ownedTupleIsFree (.ref z) >>= _) _ _ _
  refine wpAny_bind (wpAny_tupleHeld_zip hz hT fun h₁ hz₁ hs₁ => ?_)
  simp only [Bool.false_eq_true, if_false]
  refine wpAny_bind ?_
  rw [← Array.forIn_toList]
  simp only [List.forIn_cons, List.forIn_nil]
  refine wpAny_bind (wpAny_bind (wpAny_holding ?_))
  show wpAny _ _ (Builtin.SmallTypes.nextOf (.ref i1) >>= _) _ _ _
  refine wpAny_bind (D1.item k { s with heap := h₁ } _ _ k1 (frB D1 D.z1 hs₁ h1) fun x h₂ tk₂ hx h1₂ hs₂ => wpAny_pure ?_)
  replace hs₂ : Heap.SameBut i1 h₁ h₂ := hs₂
  refine wpAny_pure ?_
  refine wpAny_bind (wpAny_bind (wpAny_holding ?_))
  show wpAny _ _ (Builtin.SmallTypes.nextOf (.ref i2) >>= _) _ _ _
  refine wpAny_bind (D2.item k { s with heap := h₂, toks := tk₂ } _ _ k2 (frB D2 D.j2 hs₂ (frB D2 D.z2 hs₁ h2)) fun y h₃ tk₃ hy h2₃ hs₃ => wpAny_pure ?_)
  replace hs₃ : Heap.SameBut i2 h₂ h₃ := hs₃
  refine wpAny_pure (wpAny_pure ?_)
  show wpAny _ _ (newTuple [x, y] >>= _) _ _ _
  refine wpAny_bind (wpAny_newTuple ?_)
  have hsz : h₃.objs.size = s.heap.objs.size := by rw [hs₃.1, hs₂.1, hs₁.1]
  have hz₃ : IsZipHeld h₃ z TI TO T true := hs₃.extBut _ _ D.i2z.symm (hs₂.extBut _ _ D.i1z.symm hz₁)
  have hk : ∀ c o, c ≠ z → c ≠ i1 → c ≠ i2 → s.heap.get? c = some o → h₃.get? c = some o := fun c o c1 c2 c3 e => hs₃.extBut _ _ c3 (hs₂.extBut _ _ c2 (hs₁.extBut _ _ c1 e))
  have h1₃ : S1 (k + 1) h₃ := frB D1 D.j1 hs₃ h1₂
  refine wpAny_pure ⟨_, rfl, ?_⟩
  show Q (.ref h₃.objs.size) _
  have hp : IsPair (h₃.push { cls := .type "tuple", data := .seq #[x, y] }) h₃.objs.size x y := Heap.get?_push_size _ rfl
  have hz4 : (h₃.push { cls := .type "tuple", data := .seq #[x, y] }).objs.size = h₃.objs.size + 1 := Heap.size_push ..
  rw [hsz] at hp hz4 ⊢
  exact hQ x y _ _ hx hy (Heap.get?_push_of_some _ hz₃) (D1.frame _ _ _ h1₃ fun b hb o e => Heap.get?_push_of_some _ e) (D2.frame _ _ _ h2₃ fun b hb o e => Heap.get?_push_of_some _ e) hp hz4 fun c o c1 c2 c3 e => Heap.get?_push_of_some _ (hk c o c1 c2 c3 e)
theorem zipG_end_held {T : Addr} {f : Bool} {oT : Obj} {Q : Fin → Shared → Prop} (D1 : Draws prog w A i1 f1 n1 P1 S1) (D2 : Draws prog w A i2 f2 n2 P2 S2) (D : Ap z TI TO i1 i2 f1 f2)
    (hz : IsZipHeld s.heap z TI TO T f) (hT : s.heap.get? T = some oT) (hTI : IsPair s.heap TI (.ref i1) (.ref i2)) (h1 : S1 k s.heap) (h2 : S2 k s.heap) (hend : k = n1 ∨ (k < n1 ∧ k = n2))
    (hE : ∀ h' e tk, (∀ c o, c ≠ z → c ≠ i1 → c ≠ i2 → s.heap.get? c = some o → h'.get? c = some o) → (∃ o, h'.get? e = some o ∧ o.cls = .type "StopIteration") → E (.ref e) { s with heap := h', toks := tk }) :
    wpAny (model prog w) A (Builtin.«zip.__next__» ⟨[.ref z], []⟩) Q E s := by
  show wpAny _ _ (field (.ref z) 2 >>= _) _ _ _
  refine wpAny_bind (wpAny_field hz rfl (x := .bool false) rfl ?_)
  show wpAny _ _ (field (.ref z) 3 >>= _) _ _ _
  refine wpAny_bind (wpAny_field hz rfl (x := .ref TI) rfl ?_)
  refine wpAny_bind (wpAny_seqItems hTI rfl ?_)
  show wpAny _ _ (Builtin.SmallTypes.ownedTupleIsFree (.ref z) >>= _) _ _ _
  refine wpAny_bind (wpAny_tupleHeld_zip hz hT fun h₁ hz₁ hs₁ => ?_)
  simp only [Bool.false_eq_true, if_false]
  refine wpAny_bind ?_
  rw [← Array.forIn_toList]
  simp only [List.forIn_cons, List.forIn_nil]
  refine wpAny_bind (wpAny_bind (wpAny_holding ?_))
  show wpAny _ _ (Builtin.SmallTypes.nextOf (.ref i1) >>= _) _ _ _
  rcases hend with rfl | ⟨k1, rfl⟩
  · refine wpAny_bind (D1.done { s with heap := h₁ } _ _ (frB D1 D.z1 hs₁ h1) fun h₂ e hs₂ he => ?_)
    replace hs₂ : Heap.ExtBut i1 h₁ h₂ := hs₂
    exact hE h₂ e _ (fun c o c1 c2 _ x => hs₂ _ _ c2 (hs₁.extBut _ _ c1 x)) he
  · refine wpAny_bind (D1.item k { s with heap := h₁ } _ _ k1 (frB D1 D.z1 hs₁ h1) fun x h₂ tk₂ hx h1₂ hs₂ => wpAny_pure ?_)
    replace hs₂ : Heap.SameBut i1 h₁ h₂ := hs₂
    refine wpAny_pure ?_
    refine wpAny_bind (wpAny_bind (wpAny_holding ?_))
    show wpAny _ _ (Builtin.SmallTypes.nextOf (.ref i2) >>= _) _ _ _
    refine wpAny_bind (D2.done { s with heap := h₂, toks := tk₂ } _ _ (frB D2 D.j2 hs₂ (frB D2 D.z2 hs₁ h2)) fun h₃ e hs₃ he => ?_)
    replace hs₃ : Heap.ExtBut i2 h₂ h₃ := hs₃
    exact hE h₃ e _ (fun c o c1 c2 c3 x => hs₃ _ _ c3 (hs₂.extBut _ _ c2 (hs₁.extBut _ _ c1 x))) he
/-- the zip between two steps, where the list S keeps the pairs -/
def ZSt (lo z TI TO i1 i2 : Addr) (S1 S2 : Nat → Heap → Prop) (k : Nat) (h : Heap) : Prop := IsPair h TI (.ref i1) (.ref i2) ∧ S1 k h ∧ S2 k h ∧
  ((k = 0 ∧ IsZip h z TI TO .none ∧ ∃ a b, IsPair h TO a b) ∨ ∃ T f oT, IsZipHeld h z TI TO T f ∧ h.get? T = some oT ∧ T ≠ z ∧ T ≠ i1 ∧ T ≠ i2 ∧ T ≠ TO ∧ lo < T)
theorem pyNextG_item {lo : Addr} {Q : Option Value → Shared → Prop} (D1 : Draws prog w A.in1 i1 f1 n1 P1 S1) (D2 : Draws prog w A.in1 i2 f2 n2 P2 S2) (D : Ap z TI TO i1 i2 f1 f2) (st : ZSt lo z TI TO i1 i2 S1 S2 k s.heap) (k1 : k < n1) (k2 : k < n2)
    (hl : z < s.heap.objs.size ∧ i1 < s.heap.objs.size ∧ i2 < s.heap.objs.size ∧ TO < s.heap.objs.size ∧ lo < s.heap.objs.size)
    (hQ : ∀ x y h' tk, P1 k x → P2 k y → ZSt lo z TI TO i1 i2 S1 S2 (k + 1) h' → IsPair h' s.heap.objs.size x y → h'.objs.size = s.heap.objs.size + 1 →
      (∀ c o, c ≠ z → c ≠ TO → c ≠ i1 → c ≠ i2 → s.heap.get? c = some o → h'.get? c = some o) → Q (some (.ref s.heap.objs.size)) { s with heap := h', toks := tk }) :
    wpAny (model prog w) A (pyNext (.ref z)) Q E s := by
  obtain ⟨hTI, h1, h2, st⟩ := st
  have hTy : s.TypeIs (.ref z) "zip" := by
    rcases st with ⟨_, hz, _⟩ | ⟨_, _, _, hz, _⟩ <;> exact ⟨_, hz, rfl⟩
  unfold pyNext
  refine wpAny_bind (wpAny_attempt (wpAny_callSpecial?_slot (name := Str.ofString "__next__") hTy F.slot_zip_next
    (wpAny_call_entry F.slot_zip_next hTy F.entry_zip_next ?_ (F.args_zip_next_1 _))))
  have big : ∀ {c : Addr}, c < s.heap.objs.size → s.heap.objs.size ≠ c := fun h => Nat.ne_of_gt h
  rcases st with ⟨rfl, hz, a, b, hTO⟩ | ⟨T, f, oT, hz, hT, t1, t2, t3, t4, t5⟩
  · exact zipG_item D1 D2 D hz hTI hTO h1 h2 k1 k2 fun x y h' tk hx hy hz' hTO' s1 s2 hp hsz hk => wpAny_pure (hQ x y h' tk hx hy ⟨hk _ _ D.TIz D.TITO D.TIi1 D.TIi2 hTI, s1, s2, .inr ⟨_, false, _, hz', hp, big hl.1, big hl.2.1, big hl.2.2.1, big hl.2.2.2.1, hl.2.2.2.2⟩⟩ hp hsz hk)
  · exact zipG_item_held D1 D2 D hz hT hTI h1 h2 k1 k2 fun x y h' tk hx hy hz' s1 s2 hp hsz hk => wpAny_pure (hQ x y h' tk hx hy ⟨hk _ _ D.TIz D.TIi1 D.TIi2 hTI, s1, s2, .inr ⟨T, true, oT, hz', hk _ _ t1 t2 t3 hT, t1, t2, t3, t4, t5⟩⟩ hp hsz fun c o c1 _ c3 c4 e => hk c o c1 c3 c4 e)
theorem pyNextG_end {lo : Addr} {Q : Option Value → Shared → Prop} (D1 : Draws prog w A.in1 i1 f1 n1 P1 S1) (D2 : Draws prog w A.in1 i2 f2 n2 P2 S2) (D : Ap z TI TO i1 i2 f1 f2) (st : ZSt lo z TI TO i1 i2 S1 S2 k s.heap) (hend : k = n1 ∨ (k < n1 ∧ k = n2))
    (hQ : ∀ h' tk, (∀ c o, c ≠ z → c ≠ TO → c ≠ i1 → c ≠ i2 → s.heap.get? c = some o → h'.get? c = some o) → Q none { s with heap := h', toks := tk }) :
    wpAny (model prog w) A (pyNext (.ref z)) Q E s := by
  obtain ⟨hTI, h1, h2, st⟩ := st
  have hTy : s.TypeIs (.ref z) "zip" := by
    rcases st with ⟨_, hz, _⟩ | ⟨_, _, _, hz, _⟩ <;> exact ⟨_, hz, rfl⟩
  unfold pyNext
  refine wpAny_bind (wpAny_attempt (wpAny_callSpecial?_slot (name := Str.ofString "__next__") hTy F.slot_zip_next
    (wpAny_call_entry F.slot_zip_next hTy F.entry_zip_next ?_ (F.args_zip_next_1 _))))
  rcases st with ⟨rfl, hz, a, b, hTO⟩ | ⟨T, f, oT, hz, hT, t1, t2, t3, t4, t5⟩
  · refine zipG_end D1 D2 D hz hTI hTO h1 h2 hend fun h' e tk hk he => ?_
    obtain ⟨o, ho, hc⟩ := he
    exact wpAny_bind (wpAny_isInstance (T := "StopIteration") (b := true) ⟨o, ho, hc⟩ isSubtype_stop (wpAny_pure (hQ _ _ hk)))
  · refine zipG_end_held D1 D2 D hz hT hTI h1 h2 hend fun h' e tk hk he => ?_
    obtain ⟨o, ho, hc⟩ := he
    exact wpAny_bind (wpAny_isInstance (T := "StopIteration") (b := true) ⟨o, ho, hc⟩ isSubtype_stop (wpAny_pure (hQ _ _ fun c o c1 _ c3 c4 x => hk c o c1 c3 c4 x)))
end
end Pm
namespace Pm
open PySem PySem.Spec PyProof.Rows L2 RZ PySem.W

/-- the pairs that stand at the addresses as -/
structure PairsAt (P1 P2 : Nat → Value → Prop) (lo : Addr) (h : Heap) (as : List Addr) : Prop where
  rise : as.Pairwise (· < ·)
  above : ∀ a ∈ as, lo < a
  pairs : ∀ (j : Nat) (a : Addr), as[j]? = some a → ∃ x y, P1 j x ∧ P2 j y ∧ h.get? a = some { cls := .type "tuple", data := .seq #[x, y] }
theorem PairsAt.there {P1 P2 : Nat → Value → Prop} {lo : Addr} {h : Heap} {as : List Addr} (g : PairsAt P1 P2 lo h as) {a : Addr} (ha : a ∈ as) : a < h.objs.size := by
  obtain ⟨j, hj⟩ := List.mem_iff_getElem?.mp ha
  obtain ⟨_, _, _, _, e⟩ := g.pairs j a hj
  exact Heap.lt_size e
theorem PairsAt.keep {P1 P2 : Nat → Value → Prop} {lo : Addr} {h h' : Heap} {as : List Addr} (g : PairsAt P1 P2 lo h as) (k : ∀ b o, lo < b → h.get? b = some o → h'.get? b = some o) : PairsAt P1 P2 lo h' as :=
  ⟨g.rise, g.above, fun j a hj => let ⟨x, y, h1, h2, e⟩ := g.pairs j a hj; ⟨x, y, h1, h2, k a _ (g.above a (List.mem_of_getElem? hj)) e⟩⟩
structure Lt5 (S z TI TO i1 i2 : Addr) (f1 f2 : List Addr) : Prop where
  z : z < S
  TI : TI < S
  TO : TO < S
  i1 : i1 < S
  i2 : i2 < S
  f1 : ∀ b ∈ f1, b < S
  f2 : ∀ b ∈ f2, b < S
section
variable {prog : Program} {w : World} {A : Around} {E : Value → Shared → Prop} {s : Shared} {R : Result → Shared → Prop} {z TI TO i1 i2 : Addr} {f1 f2 : List Addr} {n1 n2 : Nat} {P1 P2 : Nat → Value → Prop} {S1 S2 : Nat → Heap → Prop}
theorem ZSt.keep {k : Nat} {h h' : Heap} {S : Addr} (D1 : Draws prog w A i1 f1 n1 P1 S1) (D2 : Draws prog w A i2 f2 n2 P2 S2) (st : ZSt S z TI TO i1 i2 S1 S2 k h) (L : Lt5 S z TI TO i1 i2 f1 f2) (kp : ∀ b o, b ≠ S → h.get? b = some o → h'.get? b = some o) : ZSt S z TI TO i1 i2 S1 S2 k h' := by
  obtain ⟨hTI, h1, h2, st⟩ := st
  refine ⟨kp _ _ (Nat.ne_of_lt L.TI) hTI, D1.frame _ _ _ h1 fun b hb o e => kp b o (Nat.ne_of_lt (L.f1 b hb)) e, D2.frame _ _ _ h2 fun b hb o e => kp b o (Nat.ne_of_lt (L.f2 b hb)) e, ?_⟩
  rcases st with ⟨e, hz, a, b, hTO⟩ | ⟨T, f, oT, hz, hT, t⟩
  · exact .inl ⟨e, kp _ _ (Nat.ne_of_lt L.z) hz, a, b, kp _ _ (Nat.ne_of_lt L.TO) hTO⟩
  · exact .inr ⟨T, f, oT, kp _ _ (Nat.ne_of_lt L.z) hz, kp _ _ (Nat.ne_of_gt t.2.2.2.2) hT, t⟩
theorem lz_loop {S : Addr} (D1 : Draws prog w A.in1.in1 i1 f1 n1 P1 S1) (D2 : Draws prog w A.in1.in1 i2 f2 n2 P2 S2) (D : Ap z TI TO i1 i2 f1 f2) (L : Lt5 S z TI TO i1 i2 f1 f2) (hn : min n1 n2 ≤ sizeLine) (res : Value) {h₁ : Heap}
    (hR : ∀ h' tk acc c as, (∀ b o, b ≠ S → b ≠ z → b ≠ TO → b ≠ i1 → b ≠ i2 → h₁.get? b = some o → h'.get? b = some o) → h'.get? S = some { cls := .type "list", dict := none, data := .seq acc c, slots := #[] } → as.length = min n1 n2 → PairsAt P1 P2 S h' as →
      acc.toList = as.map Value.ref → R (.ok (.ret res)) { s with heap := h', toks := tk }) :
    ∀ (m i : Nat) (h : Heap) (tk c : Nat) (acc : Array Value) (as : List Addr), min n1 n2 - i = m → i ≤ min n1 n2 → ZSt S z TI TO i1 i2 S1 S2 i h → (∀ b o, b ≠ S → b ≠ z → b ≠ TO → b ≠ i1 → b ≠ i2 → h₁.get? b = some o → h.get? b = some o) →
      h.get? S = some { cls := .type "list", dict := none, data := .seq acc c, slots := #[] } → acc.toList = as.map Value.ref → as.length = i → PairsAt P1 P2 S h as →
      codeAny (model prog w) A (.builtin "list.extend.loop" ⟨[.ref S, .ref z, res], []⟩) R { s with heap := h, toks := tk } := by
  have up4 : ∀ b, S < b → b ≠ z ∧ b ≠ TO ∧ b ≠ i1 ∧ b ≠ i2 := fun b hb => ⟨Nat.ne_of_gt (Nat.lt_trans L.z hb), Nat.ne_of_gt (Nat.lt_trans L.TO hb), Nat.ne_of_gt (Nat.lt_trans L.i1 hb), Nat.ne_of_gt (Nat.lt_trans L.i2 hb)⟩
  have sz : S ≠ z := Nat.ne_of_gt L.z
  have sTO : S ≠ TO := Nat.ne_of_gt L.TO
  have si1 : S ≠ i1 := Nat.ne_of_gt L.i1
  have si2 : S ≠ i2 := Nat.ne_of_gt L.i2
  intro m
  induction m with
  | zero =>
    intro i h tk c acc as hk hi hst hkeep hS hacc hal hG
    have hin : i = min n1 n2 := by omega
    refine codeAny_builtin PySem.F.entry_extend_loop ?_
    rw [Around.under_plainId PySem.F.plain_extend_loop _]
    show wpAny _ A.in1 (pyNext (.ref z) >>= _) _ _ _
    refine wpAny_bind (pyNextG_end (s := { s with heap := h, toks := tk }) (A := A.in1) D1 D2 D hst (by omega) fun h' tk' he => ?_)
    replace he : ∀ c o, c ≠ z → c ≠ TO → c ≠ i1 → c ≠ i2 → h.get? c = some o → h'.get? c = some o := he
    refine wpAny_pure (hR h' tk' acc c as (fun b o h1 h2 h3 h4 h5 e => he b o h2 h3 h4 h5 (hkeep b o h1 h2 h3 h4 h5 e)) (he S _ sz sTO si1 si2 hS) (by omega) (hG.keep fun b o hb e => he b o (up4 b hb).1 (up4 b hb).2.1 (up4 b hb).2.2.1 (up4 b hb).2.2.2 e) hacc)
  | succ m ih =>
    intro i h tk c acc as hk hi hst hkeep hS hacc hal hG
    have hlt : i < min n1 n2 := by omega
    have hsz : acc.size = i := by rw [← Array.length_toList, hacc, List.length_map, hal]
    have hSl : S < h.objs.size := Heap.lt_size hS
    refine codeAny_builtin PySem.F.entry_extend_loop ?_
    rw [Around.under_plainId PySem.F.plain_extend_loop _]
    show wpAny _ A.in1 (pyNext (.ref z) >>= _) _ _ _
    refine wpAny_bind (pyNextG_item (s := { s with heap := h, toks := tk }) (A := A.in1) D1 D2 D hst (by omega) (by omega) ⟨Nat.lt_trans L.z hSl, Nat.lt_trans L.i1 hSl, Nat.lt_trans L.i2 hSl, Nat.lt_trans L.TO hSl, hSl⟩ fun x y h' tk' hx hy hst' ht hz hkp => ?_)
    replace ht : IsPair h' h.objs.size x y := ht
    replace hz : h'.objs.size = h.objs.size + 1 := hz
    replace hkp : ∀ c o, c ≠ z → c ≠ TO → c ≠ i1 → c ≠ i2 → h.get? c = some o → h'.get? c = some o := hkp
    have hS' := hkp S _ sz sTO si1 si2 hS
    have up : ∀ b o, b ≠ S → h'.get? b = some o → (h'.update S (Obj.mapSeq (·.push (Value.ref h.objs.size)))).get? b = some o := fun b o hb e => (Heap.get?_update_other _ _ (Ne.symm hb)).trans e
    have hG' : PairsAt P1 P2 S h' (as ++ [h.objs.size]) := by
      have g1 := hG.keep (h' := h') fun b o hb e => hkp b o (up4 b hb).1 (up4 b hb).2.1 (up4 b hb).2.2.1 (up4 b hb).2.2.2 e
      refine ⟨List.pairwise_append.mpr ⟨hG.rise, List.pairwise_singleton _ _, fun a ha b hb => ?_⟩, fun a ha => ?_, fun j b hj => ?_⟩
      · rw [List.mem_singleton.mp hb]; exact hG.there ha
      · rcases List.mem_append.mp ha with ha | ha
        · exact hG.above a ha
        · rw [List.mem_singleton.mp ha]; exact hSl
      · rcases Nat.lt_trichotomy j as.length with h1 | h1 | h1
        · rw [List.getElem?_append_left h1] at hj
          exact g1.pairs j b hj
        · subst h1
          have hb : h.objs.size = b := by simpa using hj
          subst hb
          exact ⟨x, y, by rw [hal]; exact hx, by rw [hal]; exact hy, ht⟩
        · have hnone : (as ++ [h.objs.size])[j]? = none := List.getElem?_eq_none (by rw [List.length_append, List.length_singleton]; omega)
          rw [hnone] at hj; cases hj
    show wpAny _ A.in1 (updateSeq S (·.push (Value.ref h.objs.size)) >>= _) _ _ _
    refine wpAny_bind ?_
    refine wpAny_updateSeq hS' rfl (wpAny_pure ⟨plainId_quiet PySem.F.plain_extend_loop _, ih (i + 1) _ tk' _ (acc.push (Value.ref h.objs.size)) (as ++ [h.objs.size]) (by omega) hlt
      (hst'.keep D1 D2 L up) (fun b o h1 h2 h3 h4 h5 e => up b o h1 (hkp b o h2 h3 h4 h5 (hkeep b o h1 h2 h3 h4 h5 e))) (Heap.get?_update_self _ hS' rfl)
      (by rw [Array.toList_push, hacc, List.map_append]; rfl) (by rw [List.length_append, hal]; rfl) (hG'.keep fun b o hb e => up b o (Nat.ne_of_gt hb) e)⟩) (by rw [hsz]; omega) (by show (acc.push (Value.ref h.objs.size)).size ≤ sizeLine + 1; rw [Array.size_push, hsz]; omega)
theorem zip_no_len : typeLookup (.type "zip") "__len__" = pure none := by rw [typeLookup_type, builtinLookup_eq_fast]; kernel_rfl
theorem zip_no_hint : typeLookup (.type "zip") "__length_hint__" = pure none := by rw [typeLookup_type, builtinLookup_eq_fast]; kernel_rfl
/-- list(z), z a new zip -/
theorem lz_call {a b : Value} {Q : Value → Shared → Prop} (D1 : Draws prog w A.in1.in1.in1 i1 f1 n1 P1 S1) (D2 : Draws prog w A.in1.in1.in1 i2 f2 n2 P2 S2) (D : Ap z TI TO i1 i2 f1 f2) (hz : IsZip s.heap z TI TO .none) (hTI : IsPair s.heap TI (.ref i1) (.ref i2)) (hTO : IsPair s.heap TO a b) (h1 : S1 0 s.heap) (h2 : S2 0 s.heap)
    (L : Lt5 s.heap.objs.size z TI TO i1 i2 f1 f2) (hn : min n1 n2 ≤ sizeLine)
    (hQ : ∀ h' tk acc c as, (∀ b o, b ≠ z → b ≠ TO → b ≠ i1 → b ≠ i2 → s.heap.get? b = some o → h'.get? b = some o) → h'.get? s.heap.objs.size = some { cls := .type "list", dict := none, data := .seq acc c, slots := #[] } → as.length = min n1 n2 → PairsAt P1 P2 s.heap.objs.size h' as →
      acc.toList = as.map Value.ref → Q (.ref s.heap.objs.size) { s with heap := h', toks := tk }) :
    wpAny (model prog w) A (call (.type "list") [.ref z]) Q E s := by
  have hSa : s.heap.objs.size ≠ z := Nat.ne_of_gt L.z
  refine callType_codes (Q₁ := fun obj s₁ => obj = .ref s.heap.objs.size ∧ s₁ = { s with heap := s.heap.push { cls := .type "list", data := .seq #[] } }) PySem.F.called_list (PySem.F.typeCall_list_1 _) PySem.F.entry_list_init
    (code_list_new _ ⟨rfl, rfl⟩) fun obj s₁ h₁ => ?_
  obtain ⟨rfl, rfl⟩ := h₁
  have hS : (s.heap.push { cls := .type "list", data := .seq #[] }).get? s.heap.objs.size = some { cls := .type "list", data := .seq #[] } := Heap.get?_push_size _ rfl
  refine ⟨⟨_, hS, rfl⟩, PySem.F.args_list_init_2 _ _, ?_⟩
  show wpAny _ A.in1.in1 (do let old ← Builtin.List.listItems (.ref s.heap.objs.size); Builtin.List.listUpdate (.ref s.heap.objs.size) (fun _ => #[]); letGo old.toList.reverse; Builtin.List.listExtendWith (.ref s.heap.objs.size) (.ref z) .none) _ _ _
  refine wpAny_bind ?_
  unfold Builtin.List.listItems
  refine wpAny_bind (wpAny_seqItems hS rfl (wpAny_pure ?_))
  show wpAny _ A.in1.in1 (updateSeq s.heap.objs.size (fun _ => #[]) >>= fun _ => letGo (#[] : Array Value).toList.reverse >>= fun _ => Builtin.List.listExtendWith (.ref s.heap.objs.size) (.ref z) .none) _ _ _
  refine wpAny_bind (wpAny_updateSeq hS rfl ?_)
  have hS2 := Heap.get?_update_self (Obj.mapSeq (fun _ => (#[] : Array Value))) hS rfl
  refine wpAny_bind (wpAny_letGo ?_)
  unfold Builtin.List.listExtendWith
  have up : ∀ (h : Heap) (f : Obj → Obj), (∀ b o, s.heap.get? b = some o → h.get? b = some o) → ∀ b o, s.heap.get? b = some o → (h.update s.heap.objs.size f).get? b = some o := fun h f q b o e =>
    (Heap.get?_update_other _ _ (Ne.symm (Nat.ne_of_lt (Heap.lt_size e)))).trans (q b o e)
  have k1 : ∀ b o, s.heap.get? b = some o → (s.heap.push { cls := .type "list", data := .seq #[] }).get? b = some o := fun b o e => Heap.get?_push_of_some _ e
  have k2 := up _ (Obj.mapSeq (fun _ => (#[] : Array Value))) k1
  have ty : ∀ {h : Heap}, (∀ b o, s.heap.get? b = some o → h.get? b = some o) → Shared.TypeIs { s with heap := h } (.ref z) "zip" := fun q => ⟨_, q _ _ hz, rfl⟩
  refine wpAny_bind (wpAny_typeOf (ty k2) ?_)
  have e1 : Builtin.List.listSameRef (.ref s.heap.objs.size) (.ref z) = false := by simp [Builtin.List.listSameRef, hSa]
  have e2 : (Value.type "zip" == Value.type "list") = false := by decide
  have e3 : (Value.type "zip" == Value.type "tuple") = false := by decide
  simp only [e1, e2, e3, Bool.or_false, Bool.false_eq_true, if_false]
  refine wpAny_bind (wpAny_pyIter_zip (k2 _ _ hz) ?_)
  refine wpAny_bind (wpAny_holding ?_)
  unfold Builtin.List.listLengthHint
  refine wpAny_bind (wpAny_specialOf (ty k2) zip_no_len ?_)
  show wpAny _ A.in1.in1 (specialOf (Value.ref z) (Str.ofString "__length_hint__") >>= _) _ _ _
  refine wpAny_bind (wpAny_specialOf (ty k2) zip_no_hint ?_)
  refine wpAny_pure ?_
  show wpAny _ A.in1.in1 (rule "list.extend.makes-room" >>= fun _ => Builtin.List.listTouch (.ref s.heap.objs.size) >>= fun _ =>
    again (.builtin "list.extend.loop" ⟨[.ref s.heap.objs.size, .ref z, .none], []⟩)) _ _ _
  refine wpAny_bind (wpAny_rule ?_)
  refine wpAny_bind ?_
  show wpAny _ A.in1.in1 (updateSeq s.heap.objs.size (·.push .none) >>= fun _ => updateSeq s.heap.objs.size (·.pop)) _ _ _
  refine wpAny_bind (wpAny_updateSeq hS2 rfl ?_)
  have hS3 := Heap.get?_update_self (Obj.mapSeq (·.push Value.none)) hS2 rfl
  refine wpAny_updateSeq (hz := by seq_fits) hS3 rfl ?_
  have hS4 := Heap.get?_update_self (Obj.mapSeq (·.pop)) hS3 rfl
  have k4 := up _ (Obj.mapSeq (·.pop)) (up _ (Obj.mapSeq (·.push Value.none)) k2)
  refine wpAny_pure ⟨plainId_quiet PySem.F.plain_extend_loop _, ?_⟩
  refine lz_loop (A := A.in1) (s := s) (h₁ := s.heap) D1 D2 D L hn .none (fun h' tk acc c as hk hS' hl hG hacc => ⟨rfl, hQ h' tk acc c as (fun b o h2 h3 h4 h5 e => hk b o (Nat.ne_of_lt (Heap.lt_size e)) h2 h3 h4 h5 e) hS' hl hG hacc⟩)
    (min n1 n2) 0 _ _ _ #[] [] (Nat.sub_zero _) (Nat.zero_le _) ⟨k4 _ _ hTI, D1.frame _ _ _ h1 fun b hb o e => k4 _ _ e, D2.frame _ _ _ h2 fun b hb o e => k4 _ _ e, .inl ⟨rfl, k4 _ _ hz, a, b, k4 _ _ hTO⟩⟩ (fun b o _ _ _ _ _ e => k4 b o e) hS4 rfl rfl ⟨List.Pairwise.nil, fun _ ha => (nomatch ha), fun j a hj => by simp at hj⟩
end
end Pm
namespace Pm
open PySem PySem.Spec PyProof.Rows L2 RZ PySem.W

theorem drawsTup {prog : Program} {w : World} {A : Around} (hh : A.handled = none) (it l : Addr) (hne : l ≠ it) (items : Array Value) :
    Draws prog w A it [it, l] items.size (fun i v => items[i]? = some v) (fun i h => h.IsTupleIter it l i ∧ h.IsTuple l items) where
  live := fun _ _ st => let ⟨o, ho, _⟩ := st.1; ⟨o, ho⟩
  frame := fun _ _ _ st hk => ⟨st.1.at fun o e => hk it (by simp) o e, st.2.at fun o e => hk l (by simp) o e⟩
  item := fun i s Q E hi st hQ => by
    refine nextOf_tuple_item st.1 st.2 (x := items[i]) (by simp [hi]) fun h' hit' hs' => ?_
    exact hQ _ h' s.toks (by simp [hi]) ⟨hit', st.2.extBut hs'.extBut hne⟩ hs'
  done := fun s Q E st hE => nextOf_tuple_end hh st.1 st.2 (by simp) hE
section
variable {fs ex : List Addr} {H H' : Hp} {h h' : Heap}
theorem Un.more (k : ∀ b u, h.get? b = some u → h'.get? b = some u) (g : ∀ b u, H b = some u → H' b = some u) (n : ∀ b u, H' b = some u → H b = some u ∨ h.objs.size ≤ b) : Un fs ex H H' h h' where
  keep := fun b u q _ _ _ => k b u q
  slot := fun b u q _ _ _ => ⟨u.slots, k b u q⟩
  free := fun b u q nb _ => by
    cases e : H' b with
    | none => rfl
    | some o =>
      rcases n b o e with z | z
      · rw [nb] at z; cases z
      · exact absurd (Heap.lt_size q) (Nat.not_lt.mpr z)
  there := fun b u q _ => ⟨u, k b u q⟩
  tups := fun b xs q => g b _ q
  frzs := fun b u xs q => g b _ q
  tbls := fun b ps q => ⟨#[], by rw [g b _ q]; simp⟩
theorem Inv.more {X : Cx} {pins : List (Addr × Obj)} {σ : L2.St} {s : Shared} {t' : Nat} (I : Inv X pins σ H s) (k : ∀ b u, s.heap.get? b = some u → h'.get? b = some u) (g : ∀ b u, H b = some u → H' b = some u)
    (n : ∀ b u, H' b = some u → H b = some u ∨ (s.heap.objs.size ≤ b ∧ ObjOk X.prog X.w H' h' b u)) : Inv X pins σ H' { s with heap := h', toks := t' } := by
  refine I.un (Un.more k g fun b u e => (n b u e).imp id fun z => z.1) fun b u e => ?_
  rcases n b u e with z | z
  · exact (I.hok b u z).stay (fun c v _ q => k c v q) (fun c q => g c _ q) fun c xs q => g c _ q
  · exact z.2
end
/-- the heap behind list(zip(..)) -/
def zipHp (H : Hp) (S : Addr) (as : List Addr) (xs ys : List V) : Hp := fun a => if a = S then some (.lst (as.map V.ref)) else if a ∈ as then some (.tup [xs.getD (as.idxOf a) .non, ys.getD (as.idxOf a) .non]) else H a
theorem PairsAt.lt {P1 P2 : Nat → Value → Prop} {lo : Addr} {h : Heap} {as : List Addr} (g : PairsAt P1 P2 lo h as) : as.Nodup := g.rise.imp fun h => Nat.ne_of_lt h
theorem lz_fin {X : Cx} {pins : List (Addr × Obj)} {σ : L2.St} {H1 : Hp} {s1 : Shared} {h' : Heap} {t' c S : Nat} {acc : Array Value} {as : List Addr} {xs ys : List V} {its its2 : List Value} (I : Inv X pins σ H1 s1) (rx : Vals xs its) (ry : Vals ys its2) (hz : min xs.length ys.length ≤ sizeLine)
    (k : ∀ b u, s1.heap.get? b = some u → h'.get? b = some u) (hS : h'.get? S = some { cls := .type "list", dict := none, data := .seq acc c, slots := #[] }) (hlo : s1.heap.objs.size ≤ S) (hl : as.length = min its.length its2.length)
    (G : PairsAt (fun i v => its.toArray[i]? = some v) (fun i v => its2.toArray[i]? = some v) S h' as) (hacc : acc.toList = as.map Value.ref) :
    Inv X pins σ (zipHp H1 S as xs ys) { s1 with heap := h', toks := t' } ∧ (∀ c o, H1 c = some o → zipHp H1 S as xs ys c = some o) ∧ H1 S = none ∧ zipHp H1 S as xs ys S = some (.lst (as.map V.ref)) ∧ as.length = min xs.length ys.length ∧
      (∀ (j : Nat) (c : Addr), as[j]? = some c → H1 c = none ∧ ∃ x y, xs[j]? = some x ∧ ys[j]? = some y ∧ zipHp H1 S as xs ys c = some (.tup [x, y])) := by
  have l1 := rx.length
  have l2 := ry.length
  have nS : H1 S = none := I.hok.fresh hlo
  have na : ∀ a ∈ as, H1 a = none := fun a ha => I.hok.fresh (Nat.le_trans hlo (Nat.le_of_lt (G.above a ha)))
  have hS0 : zipHp H1 S as xs ys S = some (.lst (as.map V.ref)) := if_pos rfl
  have old : ∀ c o, H1 c = some o → zipHp H1 S as xs ys c = some o := fun c o e => by
    unfold zipHp
    rw [if_neg (fun z => by subst z; rw [nS] at e; cases e), if_neg (fun z => by rw [na c z] at e; cases e)]
    exact e
  have hla : as.length = min xs.length ys.length := by rw [hl]; omega
  have at_ : ∀ (j : Nat) (c : Addr), as[j]? = some c → ∃ x y u v, xs[j]? = some x ∧ ys[j]? = some y ∧ zipHp H1 S as xs ys c = some (.tup [x, y]) ∧ RelV x u ∧ RelV y v ∧ h'.get? c = some { cls := .type "tuple", data := .seq #[u, v] } := fun j c hj => by
    obtain ⟨hjl, hjc⟩ := List.getElem?_eq_some_iff.mp hj
    obtain ⟨u, v, hu, hv, e⟩ := G.pairs j c hj
    have hjx : j < xs.length := by omega
    have hjy : j < ys.length := by omega
    obtain ⟨u', hu', ru⟩ := rx.get (List.getElem?_eq_getElem hjx)
    obtain ⟨v', hv', rv⟩ := ry.get (List.getElem?_eq_getElem hjy)
    have eu : u' = u := by rw [List.getElem?_toArray] at hu; rw [hu] at hu'; exact (Option.some.inj hu').symm
    have ev : v' = v := by rw [List.getElem?_toArray] at hv; rw [hv] at hv'; exact (Option.some.inj hv').symm
    subst eu ev
    refine ⟨xs[j], ys[j], u', v', List.getElem?_eq_getElem hjx, List.getElem?_eq_getElem hjy, ?_, ru, rv, e⟩
    have ne : c ≠ S := Nat.ne_of_gt (G.above c (List.mem_of_getElem? hj))
    have ix : as.idxOf c = j := by rw [← hjc]; exact G.lt.idxOf_getElem j hjl
    unfold zipHp
    rw [if_neg ne, if_pos (List.mem_of_getElem? hj), ix, List.getD_eq_getElem?_getD, List.getD_eq_getElem?_getD, List.getElem?_eq_getElem hjx, List.getElem?_eq_getElem hjy]
    rfl
  refine ⟨Inv.more I k old fun b u e => ?_, old, nS, hS0, hla, fun j c hj => ?_⟩
  · by_cases hb : b = S
    · subst hb
      rw [hS0] at e
      cases e
      refine .inr ⟨hlo, ?_, acc.toList, c, ?_, by rw [Array.toArray_toList]; exact hS⟩
      · rw [List.length_map, hla]; exact hz
      · rw [hacc]; exact vals_refs as
    · by_cases hm : b ∈ as
      · obtain ⟨j, hj⟩ := List.mem_iff_getElem?.mp hm
        obtain ⟨x, y, u', v', _, _, h3, r1, r2, h4⟩ := at_ j b hj
        rw [h3] at e
        cases e
        exact .inr ⟨Nat.le_trans hlo (Nat.le_of_lt (G.above b hm)), by show 2 ≤ sizeLine; decide, [u', v'], .cons r1 (.cons r2 .nil), _, h4, rfl, _, rfl⟩
      · unfold zipHp at e
        rw [if_neg hb, if_neg hm] at e
        exact .inl e
  · obtain ⟨x, y, u', v', h1, h2, h3, _⟩ := at_ j c hj
    exact ⟨na c (List.mem_of_getElem? hj), x, y, h1, h2, h3⟩
def tLz (K : PySem.W.Frag) (ta : TA) : TE := fun σ H Q => ta σ H fun vs H1 => ∃ a b xs ys, vs = [.ref a, .ref b] ∧ ((SqL K H1 a xs ∧ SqL K H1 b ys) ∨ (SqT K H1 a xs ∧ SqT K H1 b ys)) ∧ min xs.length ys.length ≤ sizeLine ∧
  ∀ (H' : Hp) (S : Addr) (as : List Addr), (∀ c o, H1 c = some o → H' c = some o) → H1 S = none → H' S = some (.lst (as.map V.ref)) → as.length = min xs.length ys.length → (∀ (j : Nat) (c : Addr), as[j]? = some c → H1 c = none ∧ ∃ x y, xs[j]? = some x ∧ ys[j]? = some y ∧ H' c = some (.tup [x, y])) → Q (.ref S) H'
theorem pe_listzip {X : Cx} {e e2 : Expr} {ta : TA} {p p2 pos pos2 : Pos} (hc : X.calm = true) (hgl : Gl X "list") (hml : X.mg "list" = none) (hg : Gl X "zip") (hm : X.mg "zip" = none) (ha : PA X [e, e2] ta)
    (hs : starEach [e, e2] X.env = (false, eval e X.env) :: starEach [e2] X.env := by rfl) (hpl : (backTo pos2 (starEach [e2] X.env)).any (·.1) = false := by rfl)
    (ho : starEach [Expr.Call (.Name "zip" p2) [e, e2] [] pos2] X.env = (false, eval (.Call (.Name "zip" p2) [e, e2] [] pos2) X.env) :: starEach [] X.env := by rfl) :
    PE X (.Call (.Name "list" p) [.Call (.Name "zip" p2) [e, e2] [] pos2] [] pos) (tLz X.K ta) := by
  refine ⟨fun pins s σ H Q I h => ?_⟩
  refine Call_ (ld_blt I hgl hml (show bootBuiltins "list" = some (.type "list") by decide +kernel) (PyProof.Rows.callWith_type1 ?_ ho rfl))
  rw [ho]
  show wpAny _ _ (spliced ((false, eval (.Call (.Name "zip" p2) [e, e2] [] pos2) X.env) :: backTo pos (starEach [] X.env))) _ _ s
  refine Calls.spliced_cons ?_
  refine Call_ (ld_blt I hg hm PyProof.Rows.boot_zip (PyProof.Rows.callWith_type1 (thn (ha.run pos2 pins s σ H _ I h) fun us s1 ⟨vs, H1, I1, r1, q1⟩ => ?_) hs hpl))
  obtain ⟨a, b, xs, ys, ex, hk, hz, q⟩ := q1
  subst ex
  cases r1 with
  | cons r rr =>
    cases rr with
    | cons r' rr =>
      cases rr
      cases r
      cases r'
      have hh : X.A.in1.in1.in1.handled = none := I1.ok.hd hc
      have nn : ∀ {a b : Nat}, a < b → a ≠ b := fun h => Nat.ne_of_lt h
      have ap : ∀ (N a b : Nat), a < N → b < N → Ap (N + 4) (N + 2) (N + 3) N (N + 1) [N, a] [N + 1, b] := fun N a b h1 h2 => by
        constructor <;> (try simp only [List.mem_cons, List.not_mem_nil, or_false, not_or, ne_eq]) <;> (try constructor) <;> (show ¬ (_ : Nat) = _; omega)
      have lt : ∀ (N a b : Nat), a < N → b < N → Lt5 (N + 5) (N + 4) (N + 2) (N + 3) N (N + 1) [N, a] [N + 1, b] := fun N a b h1 h2 => by
        constructor <;> first | (show (_ : Nat) < _; omega) | (intro c hc; simp only [List.mem_cons, List.not_mem_nil, or_false] at hc; rcases hc with rfl | rfl <;> (show (_ : Nat) < _; omega))
      have key : ∀ (h' : Heap) (its its2 : List Value), Vals xs its → Vals ys its2 → h'.objs.size = s1.heap.objs.size + 5 → (∀ c o, s1.heap.get? c = some o → h'.get? c = some o) → ∀ (h'' : Heap) (tk : Nat) (acc : Array Value) (c : Nat) (as : List Addr),
          (∀ b o, b ≠ s1.heap.objs.size + 4 → b ≠ s1.heap.objs.size + 3 → b ≠ s1.heap.objs.size → b ≠ s1.heap.objs.size + 1 → h'.get? b = some o → h''.get? b = some o) → h''.get? h'.objs.size = some { cls := .type "list", dict := none, data := .seq acc c, slots := #[] } → as.length = min its.toArray.size its2.toArray.size →
          PairsAt (fun i v => its.toArray[i]? = some v) (fun i v => its2.toArray[i]? = some v) h'.objs.size h'' as → acc.toList = as.map Value.ref → EP X pins σ Q (.ref h'.objs.size) { s1 with heap := h'', toks := tk } := fun h' its its2 rx ry hsz hk' h'' tk acc c as kp hS hl G hacc => by
        have kk : ∀ b u, s1.heap.get? b = some u → h''.get? b = some u := fun b u e => by
          have hb : b < s1.heap.objs.size := Heap.lt_size e
          exact kp b u (nn (Nat.lt_of_lt_of_le hb (Nat.le_add_right _ _))) (nn (Nat.lt_of_lt_of_le hb (Nat.le_add_right _ _))) (nn hb) (nn (Nat.lt_of_lt_of_le hb (Nat.le_add_right _ _))) (hk' b u e)
        obtain ⟨J, g1, g2, g3, g4, g5⟩ := lz_fin (t' := tk) I1 rx ry hz kk hS (by rw [hsz]; exact Nat.le_add_right _ _) (by simpa using hl) G hacc
        exact ⟨.ref h'.objs.size, _, J, rfl, q _ _ as g1 g2 g3 g4 g5⟩
      rcases hk with ⟨hqx, hqy⟩ | ⟨hqx, hqy⟩
      · obtain ⟨its, rv, p1, _⟩ := I1.list hqx
        obtain ⟨its2, rv2, p2, _⟩ := I1.list hqy
        refine call_zip_2 p1.isList p2.isList fun h' hz' hTI hTO h1 h2 hsz hk => Calls.spliced_nil ?_
        have L1 := p1.isList
        have L2' := p2.isList
        refine lz_call (s := { s1 with heap := h' }) (Draws.list (prog := X.prog) (w := X.w) (A := X.A.in1.in1.in1) hh s1.heap.objs.size a (nn p1.lt) its.toArray) (Draws.list (prog := X.prog) (w := X.w) (A := X.A.in1.in1.in1) hh (s1.heap.objs.size + 1) b (nn (Nat.lt_trans p2.lt (Nat.lt_succ_self _))) its2.toArray) (ap _ _ _ p1.lt p2.lt) hz' hTI hTO ⟨h1, L1.at fun o e => hk _ o e⟩ ⟨h2, L2'.at fun o e => hk _ o e⟩
          (by rw [hsz]; exact lt _ _ _ p1.lt p2.lt) ?_ fun h'' tk acc c as kp hS hl G hacc => key h' its its2 rv rv2 hsz hk h'' tk acc c as kp hS hl G hacc
        have := rv.length
        have := rv2.length
        simp only [List.size_toArray]
        omega
      · obtain ⟨its, rv, p1, _⟩ := I1.tuple hqx
        obtain ⟨its2, rv2, p2, _⟩ := I1.tuple hqy
        obtain ⟨o1, ho1, _⟩ := id p1
        obtain ⟨o2, ho2, _⟩ := id p2
        have L1 : s1.heap.IsTuple a its.toArray := p1
        have L2' : s1.heap.IsTuple b its2.toArray := p2
        refine call_zipT L1 L2' fun h' hz' hTI hTO h1 h2 hsz hk => Calls.spliced_nil ?_
        refine lz_call (s := { s1 with heap := h' }) (drawsTup (prog := X.prog) (w := X.w) (A := X.A.in1.in1.in1) hh s1.heap.objs.size a (nn (Heap.lt_size ho1)) its.toArray) (drawsTup (prog := X.prog) (w := X.w) (A := X.A.in1.in1.in1) hh (s1.heap.objs.size + 1) b (nn (Nat.lt_trans (Heap.lt_size ho2) (Nat.lt_succ_self _))) its2.toArray) (ap _ _ _ (Heap.lt_size ho1) (Heap.lt_size ho2)) hz' hTI hTO ⟨h1, L1.at fun o e => hk _ o e⟩ ⟨h2, L2'.at fun o e => hk _ o e⟩
          (by rw [hsz]; exact lt _ _ _ (Heap.lt_size ho1) (Heap.lt_size ho2)) ?_ fun h'' tk acc c as kp hS hl G hacc => key h' its its2 rv rv2 hsz hk h'' tk acc c as kp hS hl G hacc
        have := rv.length
        have := rv2.length
        simp only [List.size_toArray]
        omega
/-! ### list(zip(..)) told by data -/
theorem DRs.of_get {K : PySem.W.Frag} {ws : Wa} {B : Addr → Prop} {H : Hp} : ∀ {vs : List V} {ds : List D}, vs.length = ds.length → (∀ (j : Nat) v d, vs[j]? = some v → ds[j]? = some d → DR K ws B H v d) → DRs K ws B H vs ds
  | [], [], _, _ => .nil
  | v :: vs, d :: ds, hl, h => .cons (h 0 v d rfl rfl) (DRs.of_get (by simpa using hl) fun j v d h1 h2 => h (j + 1) v d (by simpa using h1) (by simpa using h2))
  | [], _ :: _, hl, _ => by cases hl
  | _ :: _, [], hl, _ => by cases hl
def dLz (g : An) : Dn := fun s => (g s).bind fun ds s1 => (fzs ds s1).bind fun es s2 => match es with
  | [x, y] => Res.opt ((zipD x y).bind fun l => if l.length ≤ sizeLine then some (.lst l) else none) s2
  | _ => .bad
theorem m_listzip {X : Cx} {Wx : WX} {a b : Expr} {pos pos2 p p2 : Pos} {g : An} (hc : X.calm = true) (ha : PAm X Wx [a, b] g) (hml : X.mg "list" = none) (hm : X.mg "zip" = none) (hgl : Gl X "list" := by rfl) (hg : Gl X "zip" := by rfl)
    (hs : starEach [a, b] X.env = (false, eval a X.env) :: starEach [b] X.env := by rfl) (hpl : (backTo pos2 (starEach [b] X.env)).any (·.1) = false := by rfl)
    (ho : starEach [Expr.Call (.Name "zip" p2) [a, b] [] pos2] X.env = (false, eval (.Call (.Name "zip" p2) [a, b] [] pos2) X.env) :: starEach [] X.env := by rfl) :
    PEm X Wx (.Call (.Name "list" p) [.Call (.Name "zip" p2) [a, b] [] pos2] [] pos) (dLz g) := by
  refine (pe_listzip hc hgl hml hg hm ha hs hpl ho).mimp fun σ H Q ⟨ws, B0, s, e, h⟩ => ?_
  refine ⟨ws, B0, s, e, (runAt.bind h).mono fun ws1 s1 ds H1 l1 e1 h1 vs hv => ?_⟩
  obtain ⟨es, s2, l2, e2, r2, h2⟩ := runAt.fzs e1 hv h1
  split at h2
  · rename_i x y
    cases r2 with
    | cons rx r2 =>
      cases r2 with
      | cons ry r2 =>
        cases r2
        cases q : zipD x y with
        | none => rw [q] at h2; exact h2.elim
        | some l =>
          rw [q] at h2
          simp only [Option.bind_some] at h2
          split at h2
          · rename_i hz
            have fin : ∀ {xs ys : List V} {l1 l2 : List D}, DRs X.K ws1 (Bad ws1 B0 s2 σ) H1 xs l1 → DRs X.K ws1 (Bad ws1 B0 s2 σ) H1 ys l2 → l = zipL l1 l2 → min xs.length ys.length ≤ sizeLine ∧
                ∀ (H' : Hp) (S : Addr) (as : List Addr), (∀ c o, H1 c = some o → H' c = some o) → H1 S = none → H' S = some (.lst (as.map V.ref)) → as.length = min xs.length ys.length → (∀ (j : Nat) (c : Addr), as[j]? = some c → H1 c = none ∧ ∃ x y, xs[j]? = some x ∧ ys[j]? = some y ∧ H' c = some (.tup [x, y])) → Q (.ref S) H' := by
              intro xs ys d1 d2 r1 r2 hl
              have n1 := r1.length
              have n2 := r2.length
              have n3 := zipL_len d1 d2
              refine ⟨by rw [n1, n2, ← n3, ← hl]; exact hz, fun H' S as gr nS hS hla hp => ?_⟩
              have g : Grow H1 H' := gr
              refine runAt.grow g e2 h2 _ (.inr (.lst (fun z => e2.bad S z nS) hS (DRs.of_get (by rw [List.length_map, hla, hl, n3, n1, n2]) fun j v d hv hd => ?_)))
              rw [List.getElem?_map] at hv
              cases hj : as[j]? with
              | none => rw [hj] at hv; cases hv
              | some c =>
                rw [hj] at hv
                cases hv
                obtain ⟨nc, u, v, h1, h2, h3⟩ := hp j c hj
                rw [hl] at hd
                obtain ⟨dx, dy, q1, q2, rfl⟩ := zipL_get hd
                obtain ⟨dx', q3, q4⟩ := r1.getV h1
                obtain ⟨dy', q5, q6⟩ := r2.getV h2
                rw [q1] at q3
                rw [q2] at q5
                cases q3
                cases q5
                exact .tup (.inl ⟨fun z => e2.bad c z nc, .inl h3⟩) (.cons (q4.grow g) (.cons (q6.grow g) .nil))
            rcases zipD_cases q with ⟨xs, ys, rfl, rfl, hl⟩ | ⟨xs, ys, hx, hy, hl⟩
            · cases rx with
              | tup t1 r1 =>
                cases ry with
                | tup t2 r2 =>
                  exact ⟨_, _, _, _, rfl, .inr ⟨t1.sq, t2.sq⟩, fin r1 r2 hl⟩
            · obtain ⟨a1, vs1, rfl, t1, r1⟩ := dr_lst rx hx
              obtain ⟨a2, vs2, rfl, t2, r2⟩ := dr_lst ry hy
              exact ⟨_, _, _, _, rfl, .inl ⟨t1.sq, t2.sq⟩, fin r1 r2 hl⟩
          · exact h2.elim
  · exact h2.elim
end Pm
namespace Pm
open PySem PySem.Spec PyProof.Rows L2

/-! ### a def that calls itself -/
def recF (np n : Nat) (b : Mf → Sn) : Nat → Mf
  | 0 => fun _ _ => none
  | k + 1 => mF np n (b (recF np n b k))
theorem recF_len {np n : Nat} {b : Mf → Sn} : ∀ (k : Nat) ds w r, recF np n b k ds w = some r → ds.length = np
  | 0, _, _, _, h => by cases h
  | k + 1, ds, w, r, h => mF_len ds w r h
section
variable {P : Program} {w : World} {K : PySem.W.Frag} {mg : Str → Option Value} {base : Heap}
theorem cal_none {x : Str} {st : Stmt} {ps : List Str} {k : Nat} (F : Df K mg x st ps) : Cal P w K mg base k x ps (fun _ _ => none) := by
  obtain ⟨f, fd, F, hg, hb⟩ := F
  exact ⟨f, fd, hg, F.kp, .all hb, ⟨fun vs H Q E h => h.1, fun A outer s H args us vs Q E hr he hb hv hs => by
    obtain ⟨_, _, _, _, _, _, _, _, _, z⟩ := hs
    exact z.elim⟩⟩
theorem cal_rec {x : Str} {st : Stmt} {N ps : List Str} {np n d : Nat} {b : Mf → Sn} (F : Df K mg x st ps) (Sc : FnScope N ps (defScope st)) (hn : N.length = n) (hp : ps.length = np)
    (hbody : ∀ j : Nat, Cal P w K mg base (d + j) x ps (recF np n b j) → ∀ (f : Addr) (cdv : Value) (A : Around) (outer : List PySem.Env) (s : Shared) (H : Hp) (E : XK), Room (d + j) (A.deeper (envOfC x (defScope st) s.heap.objs.size f cdv)) →
      PSsm (cxOf (L2.CX P w) P w K mg base N x (defScope st) f cdv A outer s H E) (fun cls d _ H => E cls d H) (defBody st) (b (recF np n b j))) : ∀ j : Nat, Cal P w K mg base (d + j) x ps (recF np n b j)
  | 0 => cal_none F
  | j + 1 => cal_of F Sc hn hp (hbody j (cal_rec F Sc hn hp hbody j))
end
section
variable {X : Cx} {Wx : WX} {e : Expr} {es : List Expr} {pos p : Pos} {x : Str} {g : An}
theorem m_calM {k np : Nat} {ps : List Str} {m : Mf} (C : Cal X.prog X.w X.K X.mg X.base k x ps m) (hl : ∀ ds w r, m ds w = some r → ds.length = np) (hp : ps.length = np) (hr : Room k X.A) (tk : Takes X Wx) (ha : PAm X Wx (e :: es) g)
    (hg : Gl X x := by rfl) (hdb : (x == ("__debug__" : Str)) = false := by decide) (he : starEach (e :: es) X.env = (false, eval e X.env) :: starEach es X.env := by rfl) (hpl : (backTo pos (starEach es X.env)).any (·.1) = false := by rfl) :
    PEm X Wx (.Call (.Name x p) (e :: es) [] pos) (dCall m g) := by
  obtain ⟨f, fd, h1, h2, h3, h4⟩ := C
  subst hp
  exact m_call h4 hl hr h1 h2 h3 tk ha hg hdb he hpl
/-! ### constants of the module -/
def Cg (K : PySem.W.Frag) (mg : Str → Option Value) (x : Str) (d : D) : Prop := ∃ v u, mg x = some u ∧ RelV v u ∧ ∀ ws B H, DR K ws B H v d
theorem m_cst {d : D} (c : Cg X.K X.mg x d) (hg : Gl X x := by rfl) (hdb : (x == ("__debug__" : Str)) = false := by decide) : PEm X Wx (.Name x pos) (dC d) := by
  obtain ⟨v, u, h1, h2, h3⟩ := c
  exact m_glob hg h1 h2 h3 hdb
theorem cg_int {K : PySem.W.Frag} {mg : Str → Option Value} {h : Heap} {i : Int} {t : Tok} (X : K.In h) (G : h.Ns mainGlobals mg) (a : PySem.W.nsIn K mainGlobals x = some (some (.int i t))) : Cg K mg x (.int i) := ⟨.int i, _, PySem.W.mg_of X G a, ⟨t, rfl⟩, fun _ _ _ => .int i⟩
/-- values by data that hold for ever -/
inductive VD (K : PySem.W.Frag) : List Value → List D → Prop
  | nil : VD K [] []
  | int {i : Int} {t : Tok} {us : List Value} {ds : List D} : VD K us ds → VD K (.int i t :: us) (.int i :: ds)
  | str {x : Str} {t : Tok} {us : List Value} {ds : List D} : VD K us ds → VD K (.str x t :: us) (.str x :: ds)
theorem VD.vals {K : PySem.W.Frag} {us : List Value} {ds : List D} (h : VD K us ds) : ∃ vs, Vals vs us ∧ ∀ ws B H, DRs K ws B H vs ds := by
  induction h with
  | nil => exact ⟨[], .nil, fun _ _ _ => .nil⟩
  | @int i t us ds _ ih => obtain ⟨vs, h1, h2⟩ := ih; exact ⟨.int i :: vs, .cons ⟨t, rfl⟩ h1, fun ws B H => .cons (.int i) (h2 ws B H)⟩
  | @str i t us ds _ ih => obtain ⟨vs, h1, h2⟩ := ih; exact ⟨.str i :: vs, .cons ⟨t, rfl⟩ h1, fun ws B H => .cons (.str i) (h2 ws B H)⟩
theorem cg_tup {K : PySem.W.Frag} {mg : Str → Option Value} {h : Heap} {c n : Nat} {od : Option Addr} {sl : Array (Option Value)} {us : List Value} {ds : List D} (X : K.In h) (G : h.Ns mainGlobals mg) (a : PySem.W.nsIn K mainGlobals x = some (some (.ref c))) (l : K.lookup c = some ⟨.type "tuple", od, .seq us.toArray n, sl⟩) (hn : us.length ≤ 1000) (h : VD K us ds) : Cg K mg x (.tup ds) := by
  obtain ⟨vs, h1, h2⟩ := h.vals
  exact ⟨.ref c, _, PySem.W.mg_of X G a, rfl, fun ws B H => .tup (.inr ⟨_, _, n, l, rfl, rfl, by simp only [List.size_toArray, sizeIs]; omega, h1⟩) (h2 ws B H)⟩
end
/-! ### is None -/
def isND : D → D → Option D
  | x, .non => (match x with | .non => some (.bl true) | .town => none | .own _ => none | _ => some (.bl false))
  | _, _ => none
theorem so_isN {K : PySem.W.Frag} : OpS K (fun x y H Q => y = .non ∧ Q (.bl (decide (x = .non))) H) isND := by
  intro ws B H x y dx dy d Q hb hx hy ho q
  cases dy <;> first | (cases ho; done) | skip
  refine ⟨hy, ?_⟩
  cases dx <;> first | (cases ho; done) | skip
  · cases ho
    have e : x = .non := hx
    subst e
    exact q _ _ (Grow.refl H) (.bl _)
  all_goals
    cases ho
    have e : decide (x = V.non) = false := by
      first
        | (have e : x = _ := hx; subst e; rfl)
        | (obtain ⟨a, _, rfl, _⟩ := hx; rfl)
        | (obtain ⟨a, rfl, _⟩ := hx; rfl)
    rw [e]
    exact q _ _ (Grow.refl H) (.bl _)
theorem o_isN_int (i : Int) : isND (.int i) .non = some (.bl false) := rfl
end Pm
namespace Pm
open PySem PySem.Spec PyProof.Rows L2
def b__law_same (r : Mf) : Sn := (sSeq (sIf (bOf (dBin isND (dVar 1) (dC .non))) (sRet (dBin isND (dVar 0) (dC .non))) sNext)
  (sSeq (sIf (bTru (dIsi "bool" (dVar 1))) (sRet (dAnd (dIsi "bool" (dVar 0)) (dBin eqD (dVar 0) (dVar 1)))) sNext)
  (sSeq (sIf (bTru (dIsi "tuple" (dVar 1))) (sSeq (sIf (bOr (bNot (bTru (dIsi "tuple" (dVar 0)))) (bOf (dBin neD (dCB lenF (aCons (dVar 0) aNil)) (dCB lenF (aCons (dVar 1) aNil))))) (sRet (dC (.bl false))) sNext)
  (sRet (dCB allF (aCons (dComp [2, 3] (iZip (aCons (dVar 0) (aCons (dVar 1) aNil))) (pTup 2 (pCons (pName 2) (pCons (pName 3) pNil))) bYes (dCall r (aCons (dVar 2) (aCons (dVar 3) aNil)))) aNil)))) sNext)
  (sSeq (sIf (bTru (dIsi "str" (dVar 1))) (sRet (dAnd (dIsi "str" (dVar 0)) (dBin eqD (dVar 0) (dVar 1)))) sNext)
  (sRet (dAnd (dIsi "int" (dVar 0)) (dAnd (dNot (dIsi "bool" (dVar 0))) (dBin eqD (dVar 0) (dVar 1)))))))))
abbrev m__law_same : Nat → Mf := recF 2 4 b__law_same
def b__law_round : Sn := (sRet (dBin fdivD (dBin addD (dBin mulD (dC (.int 2)) (dVar 0)) (dVar 1)) (dBin mulD (dC (.int 2)) (dVar 1))))
def m__law_round : Mf := mF 2 2 b__law_round
def b_faded : Sn := (sRet (dBin addD (dSl (dVar 0) oNone (oSome (dC (.int 3)))) (dTup (aCons (dCall m_rounded (aCons (dBin mulD (dBin ixD (dVar 0) (dC (.int 3))) (dVar 1)) (aCons (dC (.int 255)) aNil))) aNil))))
def m_faded : Mf := mF 2 2 b_faded
def b_shared : Sn := (sSeq (sSet 3 (dLz (aCons (dVar 0) (aCons (dVar 1) aNil))))
  (sRet (dCB tupF (aCons (dComp [4, 5] (iOf (dVar 3)) (pTup 2 (pCons (pName 4) (pCons (pName 5) pNil))) bYes (dCall m_rounded (aCons (dBin addD (dBin mulD (dVar 4) (dBin subD (dC (.int 255)) (dVar 2))) (dBin mulD (dVar 5) (dVar 2))) (aCons (dC (.int 255)) aNil)))) aNil))))
def m_shared : Mf := mF 3 6 b_shared
/-- plain data, tuples at most n deep -/
def pd : Nat → D → Bool
  | _, .non => true
  | _, .bl _ => true
  | _, .int _ => true
  | _, .str _ => true
  | n + 1, .tup l => decide (l.length ≤ 1000000) && l.all (pd n)
  | _, _ => false
theorem pd_tup (n : Nat) (l : List D) : pd (n + 1) (.tup l) = (decide (l.length ≤ 1000000) && l.all (pd n)) := by rw [pd]
theorem pd_tup0 (l : List D) : pd 0 (.tup l) = false := by rw [pd] <;> (intros; contradiction)
theorem pd_pl {n : Nat} {d : D} (h : pd n d = true) : pl d = true := by cases d <;> first | rfl | (cases n <;> simp [pd] at h)
theorem isi_n {T : String} {b : Bool} (h : kitB "NoneType" T = some b) : isiD T .non = some b := h
theorem is_bl (b : Bool) : isND (.bl b) .non = some (.bl false) := rfl
theorem is_int (i : Int) : isND (.int i) .non = some (.bl false) := rfl
theorem is_str (i : Str) : isND (.str i) .non = some (.bl false) := rfl
theorem is_tup (i : List D) : isND (.tup i) .non = some (.bl false) := rfl
theorem is_non : isND .non .non = some (.bl true) := rfl
theorem blsOf_rep (n : Nat) : blsOf (List.replicate n (.bl true)) = some (List.replicate n true) := by
  induction n with
  | zero => rfl
  | succ n ih => simp [List.replicate_succ, blsOf, ih]
theorem all_rep (n : Nat) : (List.replicate n true).all id = true := by
  induction n with
  | zero => rfl
  | succ n ih => simp [List.replicate_succ, ih]
theorem eq_int (i : Int) : eqD (.int i) (.int i) = some (.bl true) := by rw [o_eq]; simp
theorem eq_bl (b : Bool) : eqD (.bl b) (.bl b) = some (.bl true) := by unfold eqD; rw [if_pos (.inl rfl)]; unfold deq; simp
theorem eq_str (x : Str) : eqD (.str x) (.str x) = some (.bl true) := by unfold eqD; rw [if_pos (.inl rfl)]; unfold deq; simp
theorem zipL_self (l : List D) : zipL l l = l.map fun d => .tup [d, d] := by
  induction l with
  | nil => rfl
  | cons d l ih => simp [zipL, ih]
def stepOk (r : Mf) (w : W) : D → Prop
  | .non => True
  | .bl _ => True
  | .int _ => True
  | .str _ => True
  | .tup l => l.length ≤ 1000000 ∧ ∀ x ∈ l, pl x = true ∧ r [x, x] w = some (.val (.bl true) w)
  | _ => False
theorem same_step (r : Mf) (d : D) (w : W) (h : stepOk r w d) : mF 2 4 (b__law_same r) [d, d] w = some (.val (.bl true) w) := by
  apply eq_of_mal
  rw [mal_mF (by rfl)]
  unfold b__law_same
  simp only [List.map_cons, List.map_nil, List.length_cons, List.length_nil, List.replicate, List.cons_append, List.nil_append]
  cases d with
  | non => simp only [e_seq, e_drop, e_act, e_var, e_cons, e_nil, e_c, bind_ok, bind_bad, bind_ex, al_bind, al_ok, al_ne, al_callR, e_rstown, e_rsown, e_fzcons, e_fznil, e_fzown, fz_non, fz_bl, fz_int, fz_str, fz_tup, fz_lst, fz_scr, fz_town, rs_non, rs_bl, rs_int, rs_str, rs_tup, rs_lst, rs_scr, e_appT, e_appO, e_extO, e_setO, e_setT, List.getElem?_cons_zero, List.getElem?_cons_succ, List.getElem?_nil, e_set, e_own, e_sub, e_asg, e_for, e_par, e_hnil, e_hva, e_how, puts_nil, puts_cons, e_cb, e_rslcons, e_rslnil, Option.bind_some, Option.map_some, lenF, opt_some, opt_none, put_mk, List.set_cons_succ, List.set_cons_zero, List.length_map, List.length_cons, List.length_nil, e_bin, e_call, e_tup, e_lst, e_sl, e_onone, e_osome, e_tru, e_of, e_band, e_bor, e_bnot, e_if, e_and, e_or, e_not, e_neg, e_chain, e_isi, e_next, e_sif, e_ret, e_comp, e_yes, e_iof, e_izip, e_rng1, e_rng2, e_name, e_pnil, e_pcons, e_ptup, o_add, o_sub, o_lt, o_le, o_gt, o_ge, o_eq, o_ne, finQ_ret, finQ_next, tupF, lstF, absF, intF, truD, itemsD, zipD, slD, o_mulL, o_mulR, o_div, o_mod, sz_le, sz_lt, o_addT, o_addL, is_non, if_true]; trivial
  | bl b => simp only [e_seq, e_drop, e_act, e_var, e_cons, e_nil, e_c, bind_ok, bind_bad, bind_ex, al_bind, al_ok, al_ne, al_callR, e_rstown, e_rsown, e_fzcons, e_fznil, e_fzown, fz_non, fz_bl, fz_int, fz_str, fz_tup, fz_lst, fz_scr, fz_town, rs_non, rs_bl, rs_int, rs_str, rs_tup, rs_lst, rs_scr, e_appT, e_appO, e_extO, e_setO, e_setT, List.getElem?_cons_zero, List.getElem?_cons_succ, List.getElem?_nil, e_set, e_own, e_sub, e_asg, e_for, e_par, e_hnil, e_hva, e_how, puts_nil, puts_cons, e_cb, e_rslcons, e_rslnil, Option.bind_some, Option.map_some, lenF, opt_some, opt_none, put_mk, List.set_cons_succ, List.set_cons_zero, List.length_map, List.length_cons, List.length_nil, e_bin, e_call, e_tup, e_lst, e_sl, e_onone, e_osome, e_tru, e_of, e_band, e_bor, e_bnot, e_if, e_and, e_or, e_not, e_neg, e_chain, e_isi, e_next, e_sif, e_ret, e_comp, e_yes, e_iof, e_izip, e_rng1, e_rng2, e_name, e_pnil, e_pcons, e_ptup, o_add, o_sub, o_lt, o_le, o_gt, o_ge, o_eq, o_ne, finQ_ret, finQ_next, tupF, lstF, absF, intF, truD, itemsD, zipD, slD, o_mulL, o_mulR, o_div, o_mod, sz_le, sz_lt, o_addT, o_addL, is_bl, isi_bool (d := .bl b) rfl, isiBool, Bool.false_eq_true, if_false, if_true, eq_bl]; trivial
  | int i => simp only [e_seq, e_drop, e_act, e_var, e_cons, e_nil, e_c, bind_ok, bind_bad, bind_ex, al_bind, al_ok, al_ne, al_callR, e_rstown, e_rsown, e_fzcons, e_fznil, e_fzown, fz_non, fz_bl, fz_int, fz_str, fz_tup, fz_lst, fz_scr, fz_town, rs_non, rs_bl, rs_int, rs_str, rs_tup, rs_lst, rs_scr, e_appT, e_appO, e_extO, e_setO, e_setT, List.getElem?_cons_zero, List.getElem?_cons_succ, List.getElem?_nil, e_set, e_own, e_sub, e_asg, e_for, e_par, e_hnil, e_hva, e_how, puts_nil, puts_cons, e_cb, e_rslcons, e_rslnil, Option.bind_some, Option.map_some, lenF, opt_some, opt_none, put_mk, List.set_cons_succ, List.set_cons_zero, List.length_map, List.length_cons, List.length_nil, e_bin, e_call, e_tup, e_lst, e_sl, e_onone, e_osome, e_tru, e_of, e_band, e_bor, e_bnot, e_if, e_and, e_or, e_not, e_neg, e_chain, e_isi, e_next, e_sif, e_ret, e_comp, e_yes, e_iof, e_izip, e_rng1, e_rng2, e_name, e_pnil, e_pcons, e_ptup, o_add, o_sub, o_lt, o_le, o_gt, o_ge, o_eq, o_ne, finQ_ret, finQ_next, tupF, lstF, absF, intF, truD, itemsD, zipD, slD, o_mulL, o_mulR, o_div, o_mod, sz_le, sz_lt, o_addT, o_addL, is_int, isi_bool (d := .int i) rfl, isi_tup (d := .int i) rfl, isi_str (d := .int i) rfl, isi_int (d := .int i) rfl, isiBool, isiTup, isiStr, isiInt, Bool.false_eq_true, if_false, if_true, Bool.not_false, eq_int]; exact ⟨by simp, trivial⟩
  | str x => simp only [e_seq, e_drop, e_act, e_var, e_cons, e_nil, e_c, bind_ok, bind_bad, bind_ex, al_bind, al_ok, al_ne, al_callR, e_rstown, e_rsown, e_fzcons, e_fznil, e_fzown, fz_non, fz_bl, fz_int, fz_str, fz_tup, fz_lst, fz_scr, fz_town, rs_non, rs_bl, rs_int, rs_str, rs_tup, rs_lst, rs_scr, e_appT, e_appO, e_extO, e_setO, e_setT, List.getElem?_cons_zero, List.getElem?_cons_succ, List.getElem?_nil, e_set, e_own, e_sub, e_asg, e_for, e_par, e_hnil, e_hva, e_how, puts_nil, puts_cons, e_cb, e_rslcons, e_rslnil, Option.bind_some, Option.map_some, lenF, opt_some, opt_none, put_mk, List.set_cons_succ, List.set_cons_zero, List.length_map, List.length_cons, List.length_nil, e_bin, e_call, e_tup, e_lst, e_sl, e_onone, e_osome, e_tru, e_of, e_band, e_bor, e_bnot, e_if, e_and, e_or, e_not, e_neg, e_chain, e_isi, e_next, e_sif, e_ret, e_comp, e_yes, e_iof, e_izip, e_rng1, e_rng2, e_name, e_pnil, e_pcons, e_ptup, o_add, o_sub, o_lt, o_le, o_gt, o_ge, o_eq, o_ne, finQ_ret, finQ_next, tupF, lstF, absF, intF, truD, itemsD, zipD, slD, o_mulL, o_mulR, o_div, o_mod, sz_le, sz_lt, o_addT, o_addL, is_str, isi_bool (d := .str x) rfl, isi_tup (d := .str x) rfl, isi_str (d := .str x) rfl, isiBool, isiTup, isiStr, Bool.false_eq_true, if_false, if_true, eq_str]; trivial
  | tup l =>
    obtain ⟨hz, h⟩ := h
    have hc : compL [2, 3] (pTup 2 (pCons (pName 2) (pCons (pName 3) pNil))) bYes (dCall r (aCons (dVar 2) (aCons (dVar 3) aNil))) (l.map fun d => D.tup [d, d]) ⟨[.va (.tup l), .va (.tup l), .no, .no], w⟩ = .ok ((l.map fun d => D.tup [d, d]).map fun _ => D.bl true) ⟨[.va (.tup l), .va (.tup l), .no, .no], w⟩ := by
      refine compL_map _ _ rfl fun x hx => ?_
      obtain ⟨d, hd, rfl⟩ := List.mem_map.mp hx
      obtain ⟨hp, ih⟩ := h d hd
      refine ⟨_, ⟨[.va (.tup l), .va (.tup l), .va d, .va d], w⟩, rfl, rfl, ?_, rfl, rfl⟩
      simp only [e_seq, e_drop, e_act, e_var, e_cons, e_nil, e_c, bind_ok, bind_bad, bind_ex, al_bind, al_ok, al_ne, al_callR, e_rstown, e_rsown, e_fzcons, e_fznil, e_fzown, fz_non, fz_bl, fz_int, fz_str, fz_tup, fz_lst, fz_scr, fz_town, rs_non, rs_bl, rs_int, rs_str, rs_tup, rs_lst, rs_scr, e_appT, e_appO, e_extO, e_setO, e_setT, List.getElem?_cons_zero, List.getElem?_cons_succ, List.getElem?_nil, e_set, e_own, e_sub, e_asg, e_for, e_par, e_hnil, e_hva, e_how, puts_nil, puts_cons, e_cb, e_rslcons, e_rslnil, Option.bind_some, Option.map_some, lenF, opt_some, opt_none, put_mk, List.set_cons_succ, List.set_cons_zero, List.length_map, List.length_cons, List.length_nil, e_bin, e_call, e_tup, e_lst, e_sl, e_onone, e_osome, e_tru, e_of, e_band, e_bor, e_bnot, e_if, e_and, e_or, e_not, e_neg, e_chain, e_isi, e_next, e_sif, e_ret, e_comp, e_yes, e_iof, e_izip, e_rng1, e_rng2, e_name, e_pnil, e_pcons, e_ptup, o_add, o_sub, o_lt, o_le, o_gt, o_ge, o_eq, o_ne, finQ_ret, finQ_next, tupF, lstF, absF, intF, truD, itemsD, zipD, slD, o_mulL, o_mulR, o_div, o_mod, sz_le, sz_lt, o_addT, o_addL, fz_pl hp, wipeS, ih, callR]
    have e : ((l.map fun d => D.tup [d, d]).map fun _ => D.bl true) = List.replicate l.length (.bl true) := by rw [List.map_map]; simp [Function.comp_def, List.map_const']
    rw [e] at hc
    simp (config := { maxSteps := 3000000 }) (disch := ((try simp only [List.length_map, List.length_cons, List.length_nil, List.length_append, List.length_replicate, List.length_set]); omega)) only [e_seq, e_drop, e_act, e_var, e_cons, e_nil, e_c, bind_ok, bind_bad, bind_ex, al_bind, al_ok, al_ne, al_callR, e_rstown, e_rsown, e_fzcons, e_fznil, e_fzown, fz_non, fz_bl, fz_int, fz_str, fz_tup, fz_lst, fz_scr, fz_town, rs_non, rs_bl, rs_int, rs_str, rs_tup, rs_lst, rs_scr, e_appT, e_appO, e_extO, e_setO, e_setT, List.getElem?_cons_zero, List.getElem?_cons_succ, List.getElem?_nil, e_set, e_own, e_sub, e_asg, e_for, e_par, e_hnil, e_hva, e_how, puts_nil, puts_cons, e_cb, e_rslcons, e_rslnil, Option.bind_some, Option.map_some, lenF, opt_some, opt_none, put_mk, List.set_cons_succ, List.set_cons_zero, List.length_map, List.length_cons, List.length_nil, e_bin, e_call, e_tup, e_lst, e_sl, e_onone, e_osome, e_tru, e_of, e_band, e_bor, e_bnot, e_if, e_and, e_or, e_not, e_neg, e_chain, e_isi, e_next, e_sif, e_ret, e_comp, e_yes, e_iof, e_izip, e_rng1, e_rng2, e_name, e_pnil, e_pcons, e_ptup, o_add, o_sub, o_lt, o_le, o_gt, o_ge, o_eq, o_ne, finQ_ret, finQ_next, tupF, lstF, absF, intF, truD, itemsD, zipD, slD, o_mulL, o_mulR, o_div, o_mod, sz_le, sz_lt, o_addT, o_addL, is_tup, isi_bool (d := .tup l) rfl, isi_tup (d := .tup l) rfl, isiBool, isiTup, Bool.false_eq_true, if_false, if_true, Bool.not_true, beq_self_eq_true, zipL_self, hc, allF, blsOf_rep, all_rep]
    trivial
  | _ => exact h.elim
/-- the law's own likeness: plain data is like itself -/
theorem same_ok : ∀ (n : Nat) (d : D) (w : W), pd n d = true → m__law_same (n + 1) [d, d] w = some (.val (.bl true) w)
  | n, d, w, h => same_step _ d w (by
    cases d with
    | tup l =>
      cases n with
      | zero => rw [pd_tup0] at h; cases h
      | succ n =>
        rw [pd_tup, Bool.and_eq_true, List.all_eq_true, decide_eq_true_eq] at h
        exact ⟨h.1, fun x hx => ⟨pd_pl (h.2 x hx), same_ok n x w (h.2 x hx)⟩⟩
    | non => trivial
    | bl b => trivial
    | int i => trivial
    | str x => trivial
    | _ => cases n <;> simp [pd] at h)
theorem round_eq {a b : Int} {w : W} (h1 : 0 < b) (h2 : b < 500000000) : m__law_round [.int a, .int b] w = some (.val (.int (rnd a b)) w) := rounded_eq h1 h2
theorem shared_eq {a b c d a' b' c' d' s : Int} {w : W} (hs : -1000 < s ∧ s < 1000) : m_shared [.tup [.int a, .int b, .int c, .int d], .tup [.int a', .int b', .int c', .int d'], .int s] w = some (.val (.tup [.int (rnd (a * (255 - s) + a' * s) 255), .int (rnd (b * (255 - s) + b' * s) 255), .int (rnd (c * (255 - s) + c' * s) 255), .int (rnd (d * (255 - s) + d' * s) 255)]) w) := by
  apply eq_of_mal
  unfold m_shared
  rw [mal_mF (by rfl)]
  unfold b_shared
  simp only [List.map_cons, List.map_nil, List.length_cons, List.length_nil, List.replicate, List.cons_append, List.nil_append]
  simp (config := { maxSteps := 3000000 }) (disch := ((try simp only [List.length_map, List.length_cons, List.length_nil, List.length_append, List.length_replicate, List.length_set]); omega)) only [e_seq, e_drop, e_act, e_var, e_cons, e_nil, e_c, bind_ok, bind_bad, bind_ex, al_bind, al_ok, al_ne, al_callR, e_rstown, e_rsown, e_fzcons, e_fznil, e_fzown, fz_non, fz_bl, fz_int, fz_str, fz_tup, fz_lst, fz_scr, fz_town, rs_non, rs_bl, rs_int, rs_str, rs_tup, rs_lst, rs_scr, e_appT, e_appO, e_extO, e_setO, e_setT, List.getElem?_cons_zero, List.getElem?_cons_succ, List.getElem?_nil, e_set, e_own, e_sub, e_asg, e_for, e_par, e_hnil, e_hva, e_how, puts_nil, puts_cons, e_cb, e_rslcons, e_rslnil, Option.bind_some, Option.map_some, lenF, opt_some, opt_none, put_mk, List.set_cons_succ, List.set_cons_zero, List.length_map, List.length_cons, List.length_nil, e_bin, e_call, e_tup, e_lst, e_sl, e_onone, e_osome, e_tru, e_of, e_band, e_bor, e_bnot, e_if, e_and, e_or, e_not, e_neg, e_chain, e_isi, e_next, e_sif, e_ret, e_comp, e_yes, e_iof, e_izip, e_rng1, e_rng2, e_name, e_pnil, e_pcons, e_ptup, o_add, o_sub, o_lt, o_le, o_gt, o_ge, o_eq, o_ne, finQ_ret, finQ_next, tupF, lstF, absF, intF, truD, itemsD, zipD, slD, o_mulL, o_mulR, o_div, o_mod, sz_le, sz_lt, o_addT, o_addL, e_nonil, e_nocons, slNo_no, slNo_va, e_wnil, e_wcons, e_bnil, e_bcons, e_cnil, e_ccons, e_znil, e_zcons, Bool.and_self, Bool.and_true, Bool.true_and, if_true, List.getD_cons_zero, List.getD_cons_succ, Mal_val, dLz, rounded_eq]
  exact ⟨by first | rfl | trivial, by first | rfl | trivial⟩
theorem faded_eq {a b c d s : Int} {w : W} (hs : -1000 < s ∧ s < 1000) : m_faded [.tup [.int a, .int b, .int c, .int d], .int s] w = some (.val (.tup [.int a, .int b, .int c, .int (rnd (d * s) 255)]) w) := by
  apply eq_of_mal
  unfold m_faded
  rw [mal_mF (by rfl)]
  unfold b_faded
  simp only [List.map_cons, List.map_nil, List.length_cons, List.length_nil, List.replicate, List.cons_append, List.nil_append]
  simp (config := { maxSteps := 3000000 }) (disch := ((try simp only [List.length_map, List.length_cons, List.length_nil, List.length_append, List.length_replicate, List.length_set]); omega)) only [e_seq, e_drop, e_act, e_var, e_cons, e_nil, e_c, bind_ok, bind_bad, bind_ex, al_bind, al_ok, al_ne, al_callR, e_rstown, e_rsown, e_fzcons, e_fznil, e_fzown, fz_non, fz_bl, fz_int, fz_str, fz_tup, fz_lst, fz_scr, fz_town, rs_non, rs_bl, rs_int, rs_str, rs_tup, rs_lst, rs_scr, e_appT, e_appO, e_extO, e_setO, e_setT, List.getElem?_cons_zero, List.getElem?_cons_succ, List.getElem?_nil, e_set, e_own, e_sub, e_asg, e_for, e_par, e_hnil, e_hva, e_how, puts_nil, puts_cons, e_cb, e_rslcons, e_rslnil, Option.bind_some, Option.map_some, lenF, opt_some, opt_none, put_mk, List.set_cons_succ, List.set_cons_zero, List.length_map, List.length_cons, List.length_nil, e_bin, e_call, e_tup, e_lst, e_sl, e_onone, e_osome, e_tru, e_of, e_band, e_bor, e_bnot, e_if, e_and, e_or, e_not, e_neg, e_chain, e_isi, e_next, e_sif, e_ret, e_comp, e_yes, e_iof, e_izip, e_rng1, e_rng2, e_name, e_pnil, e_pcons, e_ptup, o_add, o_sub, o_lt, o_le, o_gt, o_ge, o_eq, o_ne, finQ_ret, finQ_next, tupF, lstF, absF, intF, truD, itemsD, zipD, slD, o_mulL, o_mulR, o_div, o_mod, sz_le, sz_lt, o_addT, o_addL, e_nonil, e_nocons, slNo_no, slNo_va, e_wnil, e_wcons, e_bnil, e_bcons, e_cnil, e_ccons, e_znil, e_zcons, Bool.and_self, Bool.and_true, Bool.true_and, if_true, List.getD_cons_zero, List.getD_cons_succ, Mal_val, ixD, show atI [D.int a, .int b, .int c, .int d] 3 = some (.int d) from rfl, show cutL [D.int a, .int b, .int c, .int d] none (some 3) = [.int a, .int b, .int c] from rfl, rounded_eq, List.cons_append, List.nil_append]
  exact ⟨by first | rfl | trivial, by first | rfl | trivial⟩
end Pm
namespace Pm
open PySem PySem.Spec PyProof.Rows L2
/-! ### colours as numbers -/
abbrev C4 := Int × Int × Int × Int
def col (c : C4) : D := .tup [.int c.1, .int c.2.1, .int c.2.2.1, .int c.2.2.2]
def okc (c : C4) : Prop := (0 ≤ c.1 ∧ c.1 ≤ 255) ∧ (0 ≤ c.2.1 ∧ c.2.1 ≤ 255) ∧ (0 ≤ c.2.2.1 ∧ c.2.2.1 ≤ 255) ∧ 0 ≤ c.2.2.2 ∧ c.2.2.2 ≤ 255
theorem IsCol.col {d : D} (h : IsCol d) : ∃ c, d = Pm.col c ∧ okc c := by
  obtain ⟨r, g, b, c, rfl, h1, h2, h3, h4⟩ := h
  exact ⟨(r, g, b, c), rfl, h1, h2, h3, h4⟩
theorem cols_of : ∀ {ds : List D}, (∀ d ∈ ds, IsCol d) → ∃ cs : List C4, ds = cs.map col ∧ ∀ c ∈ cs, okc c
  | [], _ => ⟨[], rfl, fun c h => (nomatch h)⟩
  | d :: ds, h => by
    obtain ⟨c, h1, h2⟩ := (h d List.mem_cons_self).col
    obtain ⟨cs, h3, h4⟩ := cols_of fun x hx => h x (List.mem_cons_of_mem _ hx)
    refine ⟨c :: cs, by rw [h1, h3]; rfl, fun x hx => ?_⟩
    rcases List.mem_cons.mp hx with rfl | hx
    · exact h2
    · exact h4 x hx
theorem col_at0 (c : C4) : atI [D.int c.1, .int c.2.1, .int c.2.2.1, .int c.2.2.2] 0 = some (.int c.1) := rfl
theorem col_at1 (c : C4) : atI [D.int c.1, .int c.2.1, .int c.2.2.1, .int c.2.2.2] 1 = some (.int c.2.1) := rfl
theorem col_at2 (c : C4) : atI [D.int c.1, .int c.2.1, .int c.2.2.1, .int c.2.2.2] 2 = some (.int c.2.2.1) := rfl
theorem col_at3 (c : C4) : atI [D.int c.1, .int c.2.1, .int c.2.2.1, .int c.2.2.2] 3 = some (.int c.2.2.2) := rfl
theorem at0 (x : D) (l : List D) : atI (x :: l) 0 = some x := atI_of (n := 0) rfl rfl
theorem at1 (x y : D) (l : List D) : atI (x :: y :: l) 1 = some y := atI_of (n := 1) rfl rfl
theorem at2 (x y z : D) (l : List D) : atI (x :: y :: z :: l) 2 = some z := atI_of (n := 2) rfl rfl
theorem at3 (x y z u : D) (l : List D) : atI (x :: y :: z :: u :: l) 3 = some u := atI_of (n := 3) rfl rfl
theorem at4 (x y z u v : D) (l : List D) : atI (x :: y :: z :: u :: v :: l) 4 = some v := atI_of (n := 4) rfl rfl
/-- a comprehension over told items -/
theorem compL_of {α : Type} {vs : List Nat} {p : Gn} {f : Dn} {s : S} (E F : α → D) : ∀ (l : List α), noOw vs s = true →
    (∀ x ∈ l, ∃ s1 s2, p (E x) (wipeS vs s) = some s1 ∧ f s1 = .ok (F x) s2 ∧ pl (F x) = true ∧ backS vs s s2 = s) → compL vs p bYes f (l.map E) s = .ok (l.map F) s
  | [], _, _ => rfl
  | x :: l, hn, h => by
    obtain ⟨s1, s2, h1, h3, h4, h5⟩ := h x List.mem_cons_self
    have ih := compL_of E F l hn fun y hy => h y (List.mem_cons_of_mem _ hy)
    rw [List.map_cons, List.map_cons]
    unfold compL
    rw [if_pos hn, h1]
    simp [bYes, h3, fz_pl h4, h5, ih]
theorem sumF_of {α : Type} (f : α → Int) (l : List α) : sumF [.lst (l.map fun x => .int (f x))] = some (.int (l.map f).sum) := by
  have e : (l.map fun x => D.int (f x)) = (l.map f).map D.int := by rw [List.map_map]; rfl
  show (intsOf (l.map fun x => D.int (f x))).map _ = _
  rw [e, intsOf_map]
  rfl
theorem sum_bd {α : Type} {f : α → Int} {l : List α} {b : Int} (h : ∀ x ∈ l, 0 ≤ f x ∧ f x ≤ b) : 0 ≤ (l.map f).sum ∧ (l.map f).sum ≤ b * l.length := by
  induction l with
  | nil => simp
  | cons x l ih =>
    have h1 := h x List.mem_cons_self
    have h2 := ih fun y hy => h y (List.mem_cons_of_mem _ hy)
    simp only [List.map_cons, List.sum_cons, List.length_cons]
    have e : b * ((l.length + 1 : Nat) : Int) = b * l.length + b := by rw [Int.natCast_add, Int.mul_add]; simp
    omega
def b_distance : Sn := (sRet (dCB sumF (aCons (dComp [2, 3] (iZip (aCons (dVar 0) (aCons (dVar 1) aNil))) (pTup 2 (pCons (pName 2) (pCons (pName 3) pNil))) bYes (dBin mulD (dBin subD (dVar 2) (dVar 3)) (dBin subD (dVar 2) (dVar 3)))) aNil)))
def m_distance : Mf := mF 2 4 b_distance
def b_mean_colour : Sn := (sSeq (sSet 1 (dCB sumF (aCons (dComp [3] (iOf (dVar 0)) (pName 3) bYes (dBin ixD (dVar 3) (dC (.int 3)))) aNil)))
  (sSeq (sIf (bOf (dBin eqD (dVar 1) (dC (.int 0)))) (sRet (dC (.tup [(.int 0), (.int 0), (.int 0), (.int 0)]))) sNext)
  (sSeq (sSet 2 (dComp [4] (iRng1m (aCons (dC (.int 3)) aNil)) (pName 4) bYes (dCall m_rounded (aCons (dCB sumF (aCons (dComp [3] (iOf (dVar 0)) (pName 3) bYes (dBin mulD (dBin ixD (dVar 3) (dC (.int 3))) (dBin ixD (dVar 3) (dVar 4)))) aNil)) (aCons (dVar 1) aNil)))))
  (sRet (dTup (aCons (dBin ixD (dVar 2) (dC (.int 0))) (aCons (dBin ixD (dVar 2) (dC (.int 1))) (aCons (dBin ixD (dVar 2) (dC (.int 2))) (aCons (dCall m_rounded (aCons (dVar 1) (aCons (dCB lenF (aCons (dVar 0) aNil)) aNil))) aNil)))))))))
def m_mean_colour : Mf := mF 1 5 b_mean_colour
theorem distance_eq {a b c d a' b' c' d' : Int} {w : W} (h : ∀ x ∈ [a, b, c, d, a', b', c', d'], 0 ≤ x ∧ x ≤ 255) : m_distance [.tup [.int a, .int b, .int c, .int d], .tup [.int a', .int b', .int c', .int d']] w = some (.val (.int ((a - a') * (a - a') + ((b - b') * (b - b') + ((c - c') * (c - c') + ((d - d') * (d - d') + 0))))) w) := by
  simp only [List.mem_cons, List.not_mem_nil, or_false, forall_eq_or_imp, forall_eq] at h
  apply eq_of_mal
  unfold m_distance
  rw [mal_mF (by rfl)]
  unfold b_distance
  simp only [List.map_cons, List.map_nil, List.length_cons, List.length_nil, List.replicate, List.cons_append, List.nil_append]
  simp (config := { maxSteps := 3000000 }) (disch := ((try simp only [List.length_map, List.length_cons, List.length_nil, List.length_append, List.length_replicate, List.length_set]); omega)) only [e_seq, e_drop, e_act, e_var, e_cons, e_nil, e_c, bind_ok, bind_bad, bind_ex, al_bind, al_ok, al_ne, al_callR, e_rstown, e_rsown, e_fzcons, e_fznil, e_fzown, fz_non, fz_bl, fz_int, fz_str, fz_tup, fz_lst, fz_scr, fz_town, rs_non, rs_bl, rs_int, rs_str, rs_tup, rs_lst, rs_scr, e_appT, e_appO, e_extO, e_setO, e_setT, List.getElem?_cons_zero, List.getElem?_cons_succ, List.getElem?_nil, e_set, e_own, e_sub, e_asg, e_for, e_par, e_hnil, e_hva, e_how, puts_nil, puts_cons, e_cb, e_rslcons, e_rslnil, Option.bind_some, Option.map_some, lenF, opt_some, opt_none, put_mk, List.set_cons_succ, List.set_cons_zero, List.length_map, List.length_cons, List.length_nil, e_bin, e_call, e_tup, e_lst, e_sl, e_onone, e_osome, e_tru, e_of, e_band, e_bor, e_bnot, e_if, e_and, e_or, e_not, e_neg, e_chain, e_isi, e_next, e_sif, e_ret, e_comp, e_yes, e_iof, e_izip, e_rng1, e_rng2, e_name, e_pnil, e_pcons, e_ptup, o_add, o_sub, o_lt, o_le, o_gt, o_ge, o_eq, o_ne, finQ_ret, finQ_next, tupF, lstF, absF, intF, truD, itemsD, zipD, slD, o_mulL, o_mulR, o_div, o_mod, sz_le, sz_lt, o_addT, o_addL, e_nonil, e_nocons, slNo_no, slNo_va, e_wnil, e_wcons, e_bnil, e_bcons, e_cnil, e_ccons, e_znil, e_zcons, Bool.and_self, Bool.and_true, Bool.true_and, if_true, List.getD_cons_zero, List.getD_cons_succ, Mal_val]
  exact ⟨by first | rfl | trivial, by first | rfl | trivial⟩
def meanD (cs : List C4) : D := if (cs.map (·.2.2.2)).sum = 0 then .tup [.int 0, .int 0, .int 0, .int 0] else
  .tup [.int (rnd (cs.map fun c => c.2.2.2 * c.1).sum (cs.map (·.2.2.2)).sum), .int (rnd (cs.map fun c => c.2.2.2 * c.2.1).sum (cs.map (·.2.2.2)).sum), .int (rnd (cs.map fun c => c.2.2.2 * c.2.2.1).sum (cs.map (·.2.2.2)).sum), .int (rnd (cs.map (·.2.2.2)).sum cs.length)]
theorem mean_eq {cs : List C4} {w : W} (hc : ∀ c ∈ cs, okc c) (hn : 0 < cs.length) (hl : cs.length ≤ 10000) : m_mean_colour [.tup (cs.map col)] w = some (.val (meanD cs) w) := by
  obtain ⟨b1, b2⟩ := sum_bd (f := fun c : C4 => c.2.2.2) (l := cs) (b := 255) fun c h => ⟨(hc c h).2.2.2.1, (hc c h).2.2.2.2⟩
  have k1 : ∀ sl, compL [3] (pName 3) bYes (dBin ixD (dVar 3) (dC (.int 3))) (cs.map col) ⟨[.va (.tup (cs.map col)), .no, .no, .no, sl], w⟩ = .ok (cs.map fun c => .int c.2.2.2) ⟨[.va (.tup (cs.map col)), .no, .no, .no, sl], w⟩ := fun sl =>
    compL_of _ _ cs rfl fun c h => ⟨_, _, rfl, rfl, rfl, rfl⟩
  have k2 : ∀ (S : Int) (i : Int) (F : C4 → Int), (i = 0 ∧ F = fun c => c.2.2.2 * c.1) ∨ (i = 1 ∧ F = fun c => c.2.2.2 * c.2.1) ∨ (i = 2 ∧ F = fun c => c.2.2.2 * c.2.2.1) → compL [3] (pName 3) bYes (dBin mulD (dBin ixD (dVar 3) (dC (.int 3))) (dBin ixD (dVar 3) (dVar 4))) (cs.map col) ⟨[.va (.tup (cs.map col)), .va (.int S), .no, .no, .va (.int i)], w⟩ = .ok (cs.map fun c => .int (F c)) ⟨[.va (.tup (cs.map col)), .va (.int S), .no, .no, .va (.int i)], w⟩ := fun S i F hi => by
    refine compL_of _ _ cs rfl fun c h => ⟨_, ⟨[.va (.tup (cs.map col)), .va (.int S), .no, .va (col c), .va (.int i)], w⟩, rfl, ?_, rfl, rfl⟩
    have := hc c h
    unfold okc at this
    rcases hi with ⟨rfl, rfl⟩ | ⟨rfl, rfl⟩ | ⟨rfl, rfl⟩ <;> simp (config := { maxSteps := 3000000 }) (disch := ((try simp only [List.length_map, List.length_cons, List.length_nil, List.length_append, List.length_replicate, List.length_set]); omega)) only [e_seq, e_drop, e_act, e_var, e_cons, e_nil, e_c, bind_ok, bind_bad, bind_ex, al_bind, al_ok, al_ne, al_callR, e_rstown, e_rsown, e_fzcons, e_fznil, e_fzown, fz_non, fz_bl, fz_int, fz_str, fz_tup, fz_lst, fz_scr, fz_town, rs_non, rs_bl, rs_int, rs_str, rs_tup, rs_lst, rs_scr, e_appT, e_appO, e_extO, e_setO, e_setT, List.getElem?_cons_zero, List.getElem?_cons_succ, List.getElem?_nil, e_set, e_own, e_sub, e_asg, e_for, e_par, e_hnil, e_hva, e_how, puts_nil, puts_cons, e_cb, e_rslcons, e_rslnil, Option.bind_some, Option.map_some, lenF, opt_some, opt_none, put_mk, List.set_cons_succ, List.set_cons_zero, List.length_map, List.length_cons, List.length_nil, e_bin, e_call, e_tup, e_lst, e_sl, e_onone, e_osome, e_tru, e_of, e_band, e_bor, e_bnot, e_if, e_and, e_or, e_not, e_neg, e_chain, e_isi, e_next, e_sif, e_ret, e_comp, e_yes, e_iof, e_izip, e_rng1, e_rng2, e_name, e_pnil, e_pcons, e_ptup, o_add, o_sub, o_lt, o_le, o_gt, o_ge, o_eq, o_ne, finQ_ret, finQ_next, tupF, lstF, absF, intF, truD, itemsD, zipD, slD, o_mulL, o_mulR, o_div, o_mod, sz_le, sz_lt, o_addT, o_addL, wipeS, ixD, col, col_at0, col_at1, col_at2, col_at3]
  apply eq_of_mal
  unfold m_mean_colour
  rw [mal_mF (by rfl)]
  unfold b_mean_colour
  simp only [List.map_cons, List.map_nil, List.length_cons, List.length_nil, List.replicate, List.cons_append, List.nil_append]
  simp (config := { maxSteps := 3000000 }) (disch := ((try simp only [List.length_map, List.length_cons, List.length_nil, List.length_append, List.length_replicate, List.length_set]); omega)) only [e_seq, e_drop, e_act, e_var, e_cons, e_nil, e_c, bind_ok, bind_bad, bind_ex, al_bind, al_ok, al_ne, al_callR, e_rstown, e_rsown, e_fzcons, e_fznil, e_fzown, fz_non, fz_bl, fz_int, fz_str, fz_tup, fz_lst, fz_scr, fz_town, rs_non, rs_bl, rs_int, rs_str, rs_tup, rs_lst, rs_scr, e_appT, e_appO, e_extO, e_setO, e_setT, List.getElem?_cons_zero, List.getElem?_cons_succ, List.getElem?_nil, e_set, e_own, e_sub, e_asg, e_for, e_par, e_hnil, e_hva, e_how, puts_nil, puts_cons, e_cb, e_rslcons, e_rslnil, Option.bind_some, Option.map_some, lenF, opt_some, opt_none, put_mk, List.set_cons_succ, List.set_cons_zero, List.length_map, List.length_cons, List.length_nil, e_bin, e_call, e_tup, e_lst, e_sl, e_onone, e_osome, e_tru, e_of, e_band, e_bor, e_bnot, e_if, e_and, e_or, e_not, e_neg, e_chain, e_isi, e_next, e_sif, e_ret, e_comp, e_yes, e_iof, e_izip, e_rng1, e_rng2, e_name, e_pnil, e_pcons, e_ptup, o_add, o_sub, o_lt, o_le, o_gt, o_ge, o_eq, o_ne, finQ_ret, finQ_next, tupF, lstF, absF, intF, truD, itemsD, zipD, slD, o_mulL, o_mulR, o_div, o_mod, sz_le, sz_lt, o_addT, o_addL, e_nonil, e_nocons, slNo_no, slNo_va, e_wnil, e_wcons, e_bnil, e_bcons, e_cnil, e_ccons, e_znil, e_zcons, Bool.and_self, Bool.and_true, Bool.true_and, if_true, List.getD_cons_zero, List.getD_cons_succ, Mal_val, k1, sumF_of]
  unfold meanD
  by_cases h0 : (cs.map (·.2.2.2)).sum = 0
  · simp only [h0, beq_self_eq_true, if_true, e_seq, e_drop, e_act, e_var, e_cons, e_nil, e_c, bind_ok, bind_bad, bind_ex, al_bind, al_ok, al_ne, al_callR, e_rstown, e_rsown, e_fzcons, e_fznil, e_fzown, fz_non, fz_bl, fz_int, fz_str, fz_tup, fz_lst, fz_scr, fz_town, rs_non, rs_bl, rs_int, rs_str, rs_tup, rs_lst, rs_scr, e_appT, e_appO, e_extO, e_setO, e_setT, List.getElem?_cons_zero, List.getElem?_cons_succ, List.getElem?_nil, e_set, e_own, e_sub, e_asg, e_for, e_par, e_hnil, e_hva, e_how, puts_nil, puts_cons, e_cb, e_rslcons, e_rslnil, Option.bind_some, Option.map_some, lenF, opt_some, opt_none, put_mk, List.set_cons_succ, List.set_cons_zero, List.length_map, List.length_cons, List.length_nil, e_bin, e_call, e_tup, e_lst, e_sl, e_onone, e_osome, e_tru, e_of, e_band, e_bor, e_bnot, e_if, e_and, e_or, e_not, e_neg, e_chain, e_isi, e_next, e_sif, e_ret, e_comp, e_yes, e_iof, e_izip, e_rng1, e_rng2, e_name, e_pnil, e_pcons, e_ptup, o_add, o_sub, o_lt, o_le, o_gt, o_ge, o_eq, o_ne, finQ_ret, finQ_next, tupF, lstF, absF, intF, truD, itemsD, zipD, slD, o_mulL, o_mulR, o_div, o_mod, sz_le, sz_lt, o_addT, o_addL]
    exact ⟨by first | rfl | trivial, by first | rfl | trivial⟩
  · have hb : ((cs.map (·.2.2.2)).sum == 0) = false := by simpa using h0
    simp (config := { maxSteps := 3000000 }) (disch := ((try simp only [List.length_map, List.length_cons, List.length_nil, List.length_append, List.length_replicate, List.length_set]); omega)) only [hb, Bool.false_eq_true, if_false, e_seq, e_drop, e_act, e_var, e_cons, e_nil, e_c, bind_ok, bind_bad, bind_ex, al_bind, al_ok, al_ne, al_callR, e_rstown, e_rsown, e_fzcons, e_fznil, e_fzown, fz_non, fz_bl, fz_int, fz_str, fz_tup, fz_lst, fz_scr, fz_town, rs_non, rs_bl, rs_int, rs_str, rs_tup, rs_lst, rs_scr, e_appT, e_appO, e_extO, e_setO, e_setT, List.getElem?_cons_zero, List.getElem?_cons_succ, List.getElem?_nil, e_set, e_own, e_sub, e_asg, e_for, e_par, e_hnil, e_hva, e_how, puts_nil, puts_cons, e_cb, e_rslcons, e_rslnil, Option.bind_some, Option.map_some, lenF, opt_some, opt_none, put_mk, List.set_cons_succ, List.set_cons_zero, List.length_map, List.length_cons, List.length_nil, e_bin, e_call, e_tup, e_lst, e_sl, e_onone, e_osome, e_tru, e_of, e_band, e_bor, e_bnot, e_if, e_and, e_or, e_not, e_neg, e_chain, e_isi, e_next, e_sif, e_ret, e_comp, e_yes, e_iof, e_izip, e_rng1, e_rng2, e_name, e_pnil, e_pcons, e_ptup, o_add, o_sub, o_lt, o_le, o_gt, o_ge, o_eq, o_ne, finQ_ret, finQ_next, tupF, lstF, absF, intF, truD, itemsD, zipD, slD, o_mulL, o_mulR, o_div, o_mod, sz_le, sz_lt, o_addT, o_addL, e_nonil, e_nocons, slNo_no, slNo_va, e_wnil, e_wcons, e_bnil, e_bcons, e_cnil, e_ccons, e_znil, e_zcons, Bool.and_self, Bool.and_true, Bool.true_and, if_true, List.getD_cons_zero, List.getD_cons_succ, Mal_val, show rngL 0 3 1 = some _ from rng_nat 3 (by decide), show (List.range 3).map (fun k : Nat => D.int k) = [.int 0, .int 1, .int 2] from rfl, k2 _ 0 _ (.inl ⟨rfl, rfl⟩), k2 _ 1 _ (.inr (.inl ⟨rfl, rfl⟩)), k2 _ 2 _ (.inr (.inr ⟨rfl, rfl⟩)), sumF_of, rounded_eq, ixD, at0, at1, at2, if_neg h0]
    exact ⟨by first | rfl | trivial, by first | rfl | trivial⟩
end Pm
namespace Lw
open PySem PySem.Spec PyProof.Rows L2 Pm

def topS (i : Nat) : Stmt := PySem.Challenge.pw_paintyard_k02_colours_by_hand.main.body.getD i (.Pass ⟨0, 0, 0, 0⟩)
def l0__law_mean : Sn := (sDrop (dAct appA (dVar 2) (aCons (dCall m__law_round (aCons (dCB sumF (aCons (dComp [4] (iOf (dVar 0)) (pName 4) bYes (dBin mulD (dBin ixD (dVar 4) (dC (.int 3))) (dBin ixD (dVar 4) (dVar 3)))) aNil)) (aCons (dVar 1) aNil))) aNil)))
def b__law_mean : Sn := (sSeq (sSet 1 (dCB sumF (aCons (dComp [4] (iOf (dVar 0)) (pName 4) bYes (dBin ixD (dVar 4) (dC (.int 3)))) aNil)))
  (sSeq (sIf (bOf (dBin eqD (dVar 1) (dC (.int 0)))) (sRet (dTup (aCons (dC (.int 0)) (aCons (dC (.int 0)) (aCons (dC (.int 0)) (aCons (dC (.int 0)) aNil)))))) sNext)
  (sSeq (sOwn 2 (dLst aNil))
  (sSeq (sFor (iRng1m (aCons (dC (.int 3)) aNil)) (pName 3) l0__law_mean)
  (sRet (dTup (aCons (dBin ixD (dVar 2) (dC (.int 0))) (aCons (dBin ixD (dVar 2) (dC (.int 1))) (aCons (dBin ixD (dVar 2) (dC (.int 2))) (aCons (dCall m__law_round (aCons (dVar 1) (aCons (dCB lenF (aCons (dVar 0) aNil)) aNil))) aNil))))))))))
def m__law_mean : Mf := mF 1 5 b__law_mean
def l0_law : Sn := (sSeq (sPar [3, 4] (hVa (dCall m__law_drawn_colour (aCons (dVar 0) (aCons (dVar 1) aNil))) (hVa (dCall m__law_drawn_colour (aCons (dVar 0) (aCons (dVar 1) aNil))) hNil)))
  (sSeq (sSet 5 (dCall m__law_draw (aCons (dVar 0) (aCons (dVar 1) (aCons (dC (.int 256)) aNil)))))
  (sSeq (sSet 6 (dComp [10, 11] (iZip (aCons (dVar 3) (aCons (dVar 4) aNil))) (pTup 2 (pCons (pName 10) (pCons (pName 11) pNil))) bYes (dCall m__law_round (aCons (dBin addD (dBin mulD (dVar 10) (dBin subD (dC (.int 255)) (dVar 5))) (dBin mulD (dVar 11) (dVar 5))) (aCons (dC (.int 255)) aNil)))))
  (sSeq (sIf (bNot (bTru (dCall (m__law_same 8) (aCons (dCall m_shared (aCons (dVar 3) (aCons (dVar 4) (aCons (dVar 5) aNil)))) (aCons (dCB tupF (aCons (dVar 6) aNil)) aNil))))) (sRet (dC (.bl false))) sNext)
  (sSeq (sSet 7 (dCall m__law_round (aCons (dBin addD (dBin addD (dBin mulD (dC (.int 299)) (dBin ixD (dVar 3) (dC (.int 0)))) (dBin mulD (dC (.int 587)) (dBin ixD (dVar 3) (dC (.int 1))))) (dBin mulD (dC (.int 114)) (dBin ixD (dVar 3) (dC (.int 2))))) (aCons (dC (.int 1000)) aNil))))
  (sSeq (sIf (bNot (bTru (dCall (m__law_same 8) (aCons (dCall m_grey (aCons (dVar 3) aNil)) (aCons (dTup (aCons (dVar 7) (aCons (dVar 7) (aCons (dVar 7) (aCons (dBin ixD (dVar 3) (dC (.int 3))) aNil))))) aNil))))) (sRet (dC (.bl false))) sNext)
  (sSeq (sSet 8 (dComp [10, 11] (iZip (aCons (dVar 3) (aCons (dVar 4) aNil))) (pTup 2 (pCons (pName 10) (pCons (pName 11) pNil))) bYes (dBin subD (dVar 10) (dVar 11))))
  (sSeq (sIf (bNot (bTru (dCall (m__law_same 8) (aCons (dCall m_distance (aCons (dVar 3) (aCons (dVar 4) aNil))) (aCons (dCB sumF (aCons (dComp [12] (iOf (dVar 8)) (pName 12) bYes (dBin mulD (dVar 12) (dVar 12))) aNil)) aNil))))) (sRet (dC (.bl false))) sNext)
  (sSeq (sIf (bNot (bTru (dCall (m__law_same 8) (aCons (dCall m_faded (aCons (dVar 3) (aCons (dVar 5) aNil))) (aCons (dBin addD (dSl (dVar 3) oNone (oSome (dC (.int 3)))) (dTup (aCons (dCall m__law_round (aCons (dBin mulD (dBin ixD (dVar 3) (dC (.int 3))) (dVar 5)) (aCons (dC (.int 255)) aNil))) aNil))) aNil))))) (sRet (dC (.bl false))) sNext)
  (sSeq (sSet 9 (dComp [13] (iRng1m (aCons (dBin addD (dC (.int 1)) (dCall m__law_draw (aCons (dVar 0) (aCons (dVar 1) (aCons (dC (.int 5)) aNil))))) aNil)) (pName 13) bYes (dCall m__law_drawn_colour (aCons (dVar 0) (aCons (dVar 1) aNil)))))
  (sSeq (sIf (bNot (bTru (dCall (m__law_same 8) (aCons (dCall m_mean_colour (aCons (dCB tupF (aCons (dSl (dVar 9) oNone (oSome (dC (.int 1)))) aNil)) aNil)) (aCons (dCall m__law_mean (aCons (dSl (dVar 9) oNone (oSome (dC (.int 1)))) aNil)) aNil))))) (sRet (dC (.bl false))) sNext)
  (sIf (bNot (bTru (dCall (m__law_same 8) (aCons (dCall m_mean_colour (aCons (dCB tupF (aCons (dVar 9) aNil)) aNil)) (aCons (dCall m__law_mean (aCons (dVar 9) aNil)) aNil))))) (sRet (dC (.bl false))) sNext))))))))))))
def b_law : Sn := (sSeq (sTown 1)
  (sSeq (sFor (iRng1m (aCons (dC (.int 12)) aNil)) (pName 2) l0_law)
  (sRet (dC (.bl true)))))
def m_law : Mf := mF 1 14 b_law
structure Hd (K : PySem.W.Frag) (mg : Str → Option Value) : Prop where
  d__law_draw : Df K mg "_law_draw" (topS 10) ["_law_script", "_law_town", "_law_many"]
  d__law_pick : Df K mg "_law_pick" (topS 11) ["_law_script", "_law_town", "_law_some"]
  d__law_drawn_colour : Df K mg "_law_drawn_colour" (topS 13) ["_law_script", "_law_town"]
  d__law_round : Df K mg "_law_round" (topS 12) ["_law_one", "_law_by"]
  d__law_same : Df K mg "_law_same" (topS 9) ["_law_got", "_law_due"]
  d_rounded : Df K mg "rounded" (topS 2) ["one", "by"]
  d_shared : Df K mg "shared" (topS 3) ["one", "other", "share"]
  d_grey : Df K mg "grey" (topS 4) ["colour"]
  d_distance : Df K mg "distance" (topS 5) ["one", "other"]
  d_faded : Df K mg "faded" (topS 6) ["colour", "share"]
  d__law_mean : Df K mg "_law_mean" (topS 14) ["_law_colours"]
  d_mean_colour : Df K mg "mean_colour" (topS 7) ["colours"]
  d_law : Df K mg "law" (topS 15) ["_law_script"]
  k_CLEAR : Cg K mg "CLEAR" (.tup [(.int 0), (.int 0), (.int 0), (.int 0)])
  n_abs : mg "abs" = none
  n_all : mg "all" = none
  n_bool : mg "bool" = none
  n_int : mg "int" = none
  n_isinstance : mg "isinstance" = none
  n_len : mg "len" = none
  n_list : mg "list" = none
  n_max : mg "max" = none
  n_range : mg "range" = none
  n_str : mg "str" = none
  n_sum : mg "sum" = none
  n_tuple : mg "tuple" = none
  n_zip : mg "zip" = none
theorem sc__law_draw : FnScope ["_law_script", "_law_town", "_law_many", "_law_k", "_law_cell", "_law_digits", "_law_number", "_law_more"] ["_law_script", "_law_town", "_law_many"] (defScope (topS 10)) := ⟨rfl, rfl, rfl, by decide +kernel, rfl, by decide +kernel, by decide +kernel⟩
theorem sc__law_pick : FnScope ["_law_script", "_law_town", "_law_some"] ["_law_script", "_law_town", "_law_some"] (defScope (topS 11)) := ⟨rfl, rfl, rfl, by decide +kernel, rfl, by decide +kernel, by decide +kernel⟩
theorem sc__law_drawn_colour : FnScope ["_law_script", "_law_town", "_law_some", "_law_parts", "_law_k"] ["_law_script", "_law_town"] (defScope (topS 13)) := ⟨rfl, rfl, rfl, by decide +kernel, rfl, by decide +kernel, by decide +kernel⟩
theorem sc__law_round : FnScope ["_law_one", "_law_by"] ["_law_one", "_law_by"] (defScope (topS 12)) := ⟨rfl, rfl, rfl, by decide +kernel, rfl, by decide +kernel, by decide +kernel⟩
theorem sc__law_same : FnScope ["_law_got", "_law_due", "_law_one", "_law_other"] ["_law_got", "_law_due"] (defScope (topS 9)) := ⟨rfl, rfl, rfl, by decide +kernel, rfl, by decide +kernel, by decide +kernel⟩
theorem sc_rounded : FnScope ["one", "by"] ["one", "by"] (defScope (topS 2)) := ⟨rfl, rfl, rfl, by decide +kernel, rfl, by decide +kernel, by decide +kernel⟩
theorem sc_shared : FnScope ["one", "other", "share", "pairs", "left", "right"] ["one", "other", "share"] (defScope (topS 3)) := ⟨rfl, rfl, rfl, by decide +kernel, rfl, by decide +kernel, by decide +kernel⟩
theorem sc_grey : FnScope ["colour", "red", "green", "blue", "cover", "part"] ["colour"] (defScope (topS 4)) := ⟨rfl, rfl, rfl, by decide +kernel, rfl, by decide +kernel, by decide +kernel⟩
theorem sc_distance : FnScope ["one", "other", "left", "right"] ["one", "other"] (defScope (topS 5)) := ⟨rfl, rfl, rfl, by decide +kernel, rfl, by decide +kernel, by decide +kernel⟩
theorem sc_faded : FnScope ["colour", "share"] ["colour", "share"] (defScope (topS 6)) := ⟨rfl, rfl, rfl, by decide +kernel, rfl, by decide +kernel, by decide +kernel⟩
theorem sc__law_mean : FnScope ["_law_colours", "_law_whole", "_law_parts", "_law_spot", "_law_one"] ["_law_colours"] (defScope (topS 14)) := ⟨rfl, rfl, rfl, by decide +kernel, rfl, by decide +kernel, by decide +kernel⟩
theorem sc_mean_colour : FnScope ["colours", "whole", "parts", "one", "at"] ["colours"] (defScope (topS 7)) := ⟨rfl, rfl, rfl, by decide +kernel, rfl, by decide +kernel, by decide +kernel⟩
theorem sc_law : FnScope ["_law_script", "_law_town", "_law_k", "_law_one", "_law_other", "_law_part", "_law_due", "_law_level", "_law_far", "_law_colours", "_law_left", "_law_right", "_law_number", "_law_j"] ["_law_script"] (defScope (topS 15)) := ⟨rfl, rfl, rfl, by decide +kernel, rfl, by decide +kernel, by decide +kernel⟩
section
variable {P : Program} {w : World} {K : PySem.W.Frag} {mg : Str → Option Value} {base : Heap}
theorem body__law_draw (h : Hd K mg) (f : Addr) (cdv : Value) (A : Around) (outer : List PySem.Env) (s : Shared) (H : Hp) (E : XK) (hr : Room (0) (A.deeper (envOfC "_law_draw" (defScope (topS 10)) s.heap.objs.size f cdv))) :
    PSsm (cxOf (L2.CX P w) P w K mg base ["_law_script", "_law_town", "_law_many", "_law_k", "_law_cell", "_law_digits", "_law_number", "_law_more"] "_law_draw" (defScope (topS 10)) f cdv A outer s H E) (fun cls d _ H => E cls d H) (defBody (topS 10)) b__law_draw := by
  have hN := sc__law_draw.nd
  have hu := hr.units
  have hc : (cxOf (L2.CX P w) P w K mg base ["_law_script", "_law_town", "_law_many", "_law_k", "_law_cell", "_law_digits", "_law_number", "_law_more"] "_law_draw" (defScope (topS 10)) f cdv A outer s H E).calm = true := rfl
  have tk : Takes (cxOf (L2.CX P w) P w K mg base ["_law_script", "_law_town", "_law_many", "_law_k", "_law_cell", "_law_digits", "_law_number", "_law_more"] "_law_draw" (defScope (topS 10)) f cdv A outer s H E) (fun cls d _ H => E cls d H) := takes_of rfl rfl rfl rfl
  have hp : PassesOwn (model P w) (cxOf (L2.CX P w) P w K mg base ["_law_script", "_law_town", "_law_many", "_law_k", "_law_cell", "_law_digits", "_law_number", "_law_more"] "_law_draw" (defScope (topS 10)) f cdv A outer s H E).A (cxOf (L2.CX P w) P w K mg base ["_law_script", "_law_town", "_law_many", "_law_k", "_law_cell", "_law_digits", "_law_number", "_law_more"] "_law_draw" (defScope (topS 10)) f cdv A outer s H E).env (cxOf (L2.CX P w) P w K mg base ["_law_script", "_law_town", "_law_many", "_law_k", "_law_cell", "_law_digits", "_law_number", "_law_more"] "_law_draw" (defScope (topS 10)) f cdv A outer s H E).xe := passes_of rfl
  exact (ms_cons (ms_if (mt_not (mt_truth (m_var 1))) (ms_one (ms_expr (m_append (m_var 1) (m_max hc hu (ma_cons (m_bin op_addM so_add (m_lc hc hN (mi_of (m_var 0)) (own := [("_law_cell", 4)]) (blkOk_by (by kernel_rfl)) (by decide) (fun _ _ _ _ _ => (mgn 4 hN)) (fun _ _ _ _ _ => mts_nil) (fun _ _ _ _ _ => (m_abs (ma_cons (m_var 4) ma_nil) h.n_abs))) (m_lst (ma_cons m_int ma_nil))) ma_nil) h.n_max)))) ms_nil)
    (ms_cons (ms_expr (m_append (m_var 1) m_int))
    (ms_cons (msv 3 hN (m_len (ma_cons (m_var 1) ma_nil) h.n_len))
    (ms_cons (msv 4 hN (m_if (mt_truth (m_var 0)) (m_ix (m_var 0) (m_bin op_mod so_mod (m_var 3) (m_len (ma_cons (m_var 0) ma_nil) h.n_len))) m_int))
    (ms_cons (msv 5 hN (m_bin op_mod so_mod (m_ix (m_var 1) m_int) m_int))
    (ms_cons (ms_sub (m_var 1) m_int (m_bin op_fdiv so_fdiv (m_ix (m_var 1) m_int) m_int))
    (ms_cons (msv 6 hN (m_bin op_mod so_mod (m_bin op_addM so_add (m_bin op_addM so_add (m_var 4) (m_bin op_mulM so_mul m_int (m_var 5))) (m_bin op_mulM so_mul m_int (m_var 3))) m_int))
    (ms_cons (msv 6 hN (m_bin op_mod so_mod (m_bin op_mulM so_mul (m_bin op_mod so_mod (m_bin op_mulM so_mul (m_var 6) (m_var 6)) m_int) m_int) m_int))
    (ms_cons (msv 7 hN (m_bin op_mod so_mod (m_bin op_mulM so_mul (m_bin op_mod so_mod (m_bin op_mulM so_mul (m_var 6) (m_var 6)) m_int) m_int) m_int))
    (ms_one (ms_ret (m_bin op_mod so_mod (m_bin op_addM so_add (m_bin op_mulM so_mul (m_bin op_fdiv so_fdiv (m_var 6) m_int) m_int) (m_bin op_fdiv so_fdiv (m_var 7) m_int)) (m_var 2)))))))))))))
theorem c__law_draw (h : Hd K mg) : Cal P w K mg base 1 "_law_draw" ["_law_script", "_law_town", "_law_many"] m__law_draw := cal_of h.d__law_draw sc__law_draw rfl rfl (body__law_draw h )
theorem body__law_pick (h : Hd K mg) (h__law_draw : Cal P w K mg base 1 "_law_draw" ["_law_script", "_law_town", "_law_many"] m__law_draw) (f : Addr) (cdv : Value) (A : Around) (outer : List PySem.Env) (s : Shared) (H : Hp) (E : XK) (hr : Room (1) (A.deeper (envOfC "_law_pick" (defScope (topS 11)) s.heap.objs.size f cdv))) :
    PSsm (cxOf (L2.CX P w) P w K mg base ["_law_script", "_law_town", "_law_some"] "_law_pick" (defScope (topS 11)) f cdv A outer s H E) (fun cls d _ H => E cls d H) (defBody (topS 11)) b__law_pick := by
  have hN := sc__law_pick.nd
  have hu := hr.units
  have hc : (cxOf (L2.CX P w) P w K mg base ["_law_script", "_law_town", "_law_some"] "_law_pick" (defScope (topS 11)) f cdv A outer s H E).calm = true := rfl
  have tk : Takes (cxOf (L2.CX P w) P w K mg base ["_law_script", "_law_town", "_law_some"] "_law_pick" (defScope (topS 11)) f cdv A outer s H E) (fun cls d _ H => E cls d H) := takes_of rfl rfl rfl rfl
  have hp : PassesOwn (model P w) (cxOf (L2.CX P w) P w K mg base ["_law_script", "_law_town", "_law_some"] "_law_pick" (defScope (topS 11)) f cdv A outer s H E).A (cxOf (L2.CX P w) P w K mg base ["_law_script", "_law_town", "_law_some"] "_law_pick" (defScope (topS 11)) f cdv A outer s H E).env (cxOf (L2.CX P w) P w K mg base ["_law_script", "_law_town", "_law_some"] "_law_pick" (defScope (topS 11)) f cdv A outer s H E).xe := passes_of rfl
  exact (ms_one (ms_ret (m_ix (m_var 2) (m_calC (h__law_draw.mono (by omega)) rfl hr tk (ma_cons (m_var 0) (ma_cons (m_var 1) (ma_cons (m_len (ma_cons (m_var 2) ma_nil) h.n_len) ma_nil)))))))
theorem c__law_pick (h : Hd K mg) (h__law_draw : Cal P w K mg base 1 "_law_draw" ["_law_script", "_law_town", "_law_many"] m__law_draw) : Cal P w K mg base 2 "_law_pick" ["_law_script", "_law_town", "_law_some"] m__law_pick := cal_of h.d__law_pick sc__law_pick rfl rfl (body__law_pick h h__law_draw)
theorem body__law_drawn_colour (h : Hd K mg) (h__law_draw : Cal P w K mg base 1 "_law_draw" ["_law_script", "_law_town", "_law_many"] m__law_draw) (h__law_pick : Cal P w K mg base 2 "_law_pick" ["_law_script", "_law_town", "_law_some"] m__law_pick) (f : Addr) (cdv : Value) (A : Around) (outer : List PySem.Env) (s : Shared) (H : Hp) (E : XK) (hr : Room (2) (A.deeper (envOfC "_law_drawn_colour" (defScope (topS 13)) s.heap.objs.size f cdv))) :
    PSsm (cxOf (L2.CX P w) P w K mg base ["_law_script", "_law_town", "_law_some", "_law_parts", "_law_k"] "_law_drawn_colour" (defScope (topS 13)) f cdv A outer s H E) (fun cls d _ H => E cls d H) (defBody (topS 13)) b__law_drawn_colour := by
  have hN := sc__law_drawn_colour.nd
  have hu := hr.units
  have hc : (cxOf (L2.CX P w) P w K mg base ["_law_script", "_law_town", "_law_some", "_law_parts", "_law_k"] "_law_drawn_colour" (defScope (topS 13)) f cdv A outer s H E).calm = true := rfl
  have tk : Takes (cxOf (L2.CX P w) P w K mg base ["_law_script", "_law_town", "_law_some", "_law_parts", "_law_k"] "_law_drawn_colour" (defScope (topS 13)) f cdv A outer s H E) (fun cls d _ H => E cls d H) := takes_of rfl rfl rfl rfl
  have hp : PassesOwn (model P w) (cxOf (L2.CX P w) P w K mg base ["_law_script", "_law_town", "_law_some", "_law_parts", "_law_k"] "_law_drawn_colour" (defScope (topS 13)) f cdv A outer s H E).A (cxOf (L2.CX P w) P w K mg base ["_law_script", "_law_town", "_law_some", "_law_parts", "_law_k"] "_law_drawn_colour" (defScope (topS 13)) f cdv A outer s H E).env (cxOf (L2.CX P w) P w K mg base ["_law_script", "_law_town", "_law_some", "_law_parts", "_law_k"] "_law_drawn_colour" (defScope (topS 13)) f cdv A outer s H E).xe := passes_of rfl
  exact (ms_cons (msv 2 hN (m_lst (ma_cons m_int (ma_cons m_int (ma_cons (m_calC (h__law_draw.mono (by omega)) rfl hr tk (ma_cons (m_var 0) (ma_cons (m_var 1) (ma_cons m_int ma_nil)))) (ma_cons (m_calC (h__law_draw.mono (by omega)) rfl hr tk (ma_cons (m_var 0) (ma_cons (m_var 1) (ma_cons m_int ma_nil)))) ma_nil))))))
    (ms_cons (ms_setLc hc hN (i := 3) rfl rfl (sw_true rfl rfl rfl rfl) (mi_range1 h.n_range (ma_cons m_int ma_nil)) (own := [("_law_k", 4)]) (blkOk_by (by kernel_rfl)) (by decide) (fun _ _ _ _ _ => (mgn 4 hN)) (fun _ _ _ _ _ => mts_nil) (fun _ _ _ _ _ => (m_calC (h__law_pick.mono (by omega)) rfl hr takes0 (ma_cons (m_var 0) (ma_cons (m_var 1) (ma_cons (m_var 2) ma_nil))))))
    (ms_one (ms_ret (m_tup (ma_cons (m_ix (m_var 3) m_int) (ma_cons (m_ix (m_var 3) m_int) (ma_cons (m_ix (m_var 3) m_int) (ma_cons (m_calC (h__law_pick.mono (by omega)) rfl hr tk (ma_cons (m_var 0) (ma_cons (m_var 1) (ma_cons (m_lst (ma_cons m_int (ma_cons m_int (ma_cons m_int (ma_cons (m_calC (h__law_draw.mono (by omega)) rfl hr tk (ma_cons (m_var 0) (ma_cons (m_var 1) (ma_cons m_int ma_nil)))) ma_nil))))) ma_nil)))) ma_nil)))))))))
theorem c__law_drawn_colour (h : Hd K mg) (h__law_draw : Cal P w K mg base 1 "_law_draw" ["_law_script", "_law_town", "_law_many"] m__law_draw) (h__law_pick : Cal P w K mg base 2 "_law_pick" ["_law_script", "_law_town", "_law_some"] m__law_pick) : Cal P w K mg base 3 "_law_drawn_colour" ["_law_script", "_law_town"] m__law_drawn_colour := cal_of h.d__law_drawn_colour sc__law_drawn_colour rfl rfl (body__law_drawn_colour h h__law_draw h__law_pick)
theorem body__law_round (h : Hd K mg) (f : Addr) (cdv : Value) (A : Around) (outer : List PySem.Env) (s : Shared) (H : Hp) (E : XK) (hr : Room (0) (A.deeper (envOfC "_law_round" (defScope (topS 12)) s.heap.objs.size f cdv))) :
    PSsm (cxOf (L2.CX P w) P w K mg base ["_law_one", "_law_by"] "_law_round" (defScope (topS 12)) f cdv A outer s H E) (fun cls d _ H => E cls d H) (defBody (topS 12)) b__law_round := by
  have hN := sc__law_round.nd
  have hu := hr.units
  have hc : (cxOf (L2.CX P w) P w K mg base ["_law_one", "_law_by"] "_law_round" (defScope (topS 12)) f cdv A outer s H E).calm = true := rfl
  have tk : Takes (cxOf (L2.CX P w) P w K mg base ["_law_one", "_law_by"] "_law_round" (defScope (topS 12)) f cdv A outer s H E) (fun cls d _ H => E cls d H) := takes_of rfl rfl rfl rfl
  have hp : PassesOwn (model P w) (cxOf (L2.CX P w) P w K mg base ["_law_one", "_law_by"] "_law_round" (defScope (topS 12)) f cdv A outer s H E).A (cxOf (L2.CX P w) P w K mg base ["_law_one", "_law_by"] "_law_round" (defScope (topS 12)) f cdv A outer s H E).env (cxOf (L2.CX P w) P w K mg base ["_law_one", "_law_by"] "_law_round" (defScope (topS 12)) f cdv A outer s H E).xe := passes_of rfl
  exact (ms_one (ms_ret (m_bin op_fdiv so_fdiv (m_bin op_addM so_add (m_bin op_mulM so_mul m_int (m_var 0)) (m_var 1)) (m_bin op_mulM so_mul m_int (m_var 1)))))
theorem c__law_round (h : Hd K mg) : Cal P w K mg base 1 "_law_round" ["_law_one", "_law_by"] m__law_round := cal_of h.d__law_round sc__law_round rfl rfl (body__law_round h )
theorem body__law_same (h : Hd K mg) (j : Nat) (h_self : Cal P w K mg base (0 + j) "_law_same" ["_law_got", "_law_due"] (m__law_same j)) (f : Addr) (cdv : Value) (A : Around) (outer : List PySem.Env) (s : Shared) (H : Hp) (E : XK) (hr : Room (0 + j) (A.deeper (envOfC "_law_same" (defScope (topS 9)) s.heap.objs.size f cdv))) :
    PSsm (cxOf (L2.CX P w) P w K mg base ["_law_got", "_law_due", "_law_one", "_law_other"] "_law_same" (defScope (topS 9)) f cdv A outer s H E) (fun cls d _ H => E cls d H) (defBody (topS 9)) (b__law_same (m__law_same j)) := by
  have hN := sc__law_same.nd
  have hu := hr.units
  have hc : (cxOf (L2.CX P w) P w K mg base ["_law_got", "_law_due", "_law_one", "_law_other"] "_law_same" (defScope (topS 9)) f cdv A outer s H E).calm = true := rfl
  have tk : Takes (cxOf (L2.CX P w) P w K mg base ["_law_got", "_law_due", "_law_one", "_law_other"] "_law_same" (defScope (topS 9)) f cdv A outer s H E) (fun cls d _ H => E cls d H) := takes_of rfl rfl rfl rfl
  have hp : PassesOwn (model P w) (cxOf (L2.CX P w) P w K mg base ["_law_got", "_law_due", "_law_one", "_law_other"] "_law_same" (defScope (topS 9)) f cdv A outer s H E).A (cxOf (L2.CX P w) P w K mg base ["_law_got", "_law_due", "_law_one", "_law_other"] "_law_same" (defScope (topS 9)) f cdv A outer s H E).env (cxOf (L2.CX P w) P w K mg base ["_law_got", "_law_due", "_law_one", "_law_other"] "_law_same" (defScope (topS 9)) f cdv A outer s H E).xe := passes_of rfl
  exact (ms_cons (ms_if (mt_cmp op_isN so_isN (m_var 1) m_non) (ms_one (ms_ret (m_cmp op_isN so_isN (m_var 0) m_non))) ms_nil)
    (ms_cons (ms_if (mt_truth (m_isiN (m_var 1) h.n_isinstance h.n_bool rfl (by decide +kernel))) (ms_one (ms_ret (m_and (m_isiN (m_var 0) h.n_isinstance h.n_bool rfl (by decide +kernel)) (m_one (m_cmp (op_eqM hu) so_eq (m_var 0) (m_var 1)))))) ms_nil)
    (ms_cons (ms_if (mt_truth (m_isiN (m_var 1) h.n_isinstance h.n_tuple rfl (by decide +kernel))) (ms_cons (ms_if (mt_w (mw_or (mt_not (mt_truth (m_isiN (m_var 0) h.n_isinstance h.n_tuple rfl (by decide +kernel)))) (mw_or1 (mt_cmp (op_neM hu) so_ne (m_len (ma_cons (m_var 0) ma_nil) h.n_len) (m_len (ma_cons (m_var 1) ma_nil) h.n_len))))) (ms_one (ms_ret m_bl)) ms_nil)
    (ms_one (ms_ret (m_all hc (ma_cons (m_lc hc hN (mi_zip h.n_zip (ma_cons (m_var 0) (ma_cons (m_var 1) ma_nil))) (own := [("_law_one", 2), ("_law_other", 3)]) (blkOk_by (by kernel_rfl)) (by decide) (fun _ _ _ _ _ => (mg_tup hc (mgs_cons (mgn 2 hN) (mgs_cons (mgn 3 hN) mgs_nil)))) (fun _ _ _ _ _ => mts_nil) (fun _ _ _ _ _ => (m_calM h_self (recF_len _) rfl hr takes0 (ma_cons (m_var 2) (ma_cons (m_var 3) ma_nil))))) ma_nil) h.n_all)))) ms_nil)
    (ms_cons (ms_if (mt_truth (m_isiN (m_var 1) h.n_isinstance h.n_str rfl (by decide +kernel))) (ms_one (ms_ret (m_and (m_isiN (m_var 0) h.n_isinstance h.n_str rfl (by decide +kernel)) (m_one (m_cmp (op_eqM hu) so_eq (m_var 0) (m_var 1)))))) ms_nil)
    (ms_one (ms_ret (m_and (m_isiN (m_var 0) h.n_isinstance h.n_int rfl (by decide +kernel)) (m_and (m_not (m_isiN (m_var 0) h.n_isinstance h.n_bool rfl (by decide +kernel))) (m_one (m_cmp (op_eqM hu) so_eq (m_var 0) (m_var 1)))))))))))
theorem c__law_same (h : Hd K mg) : Cal P w K mg base 8 "_law_same" ["_law_got", "_law_due"] (m__law_same 8) := cal_rec (d := 0) h.d__law_same sc__law_same rfl rfl (fun j hj => body__law_same h  j hj) 8
theorem body_rounded (h : Hd K mg) (f : Addr) (cdv : Value) (A : Around) (outer : List PySem.Env) (s : Shared) (H : Hp) (E : XK) (hr : Room (0) (A.deeper (envOfC "rounded" (defScope (topS 2)) s.heap.objs.size f cdv))) :
    PSsm (cxOf (L2.CX P w) P w K mg base ["one", "by"] "rounded" (defScope (topS 2)) f cdv A outer s H E) (fun cls d _ H => E cls d H) (defBody (topS 2)) b_rounded := by
  have hN := sc_rounded.nd
  have hu := hr.units
  have hc : (cxOf (L2.CX P w) P w K mg base ["one", "by"] "rounded" (defScope (topS 2)) f cdv A outer s H E).calm = true := rfl
  have tk : Takes (cxOf (L2.CX P w) P w K mg base ["one", "by"] "rounded" (defScope (topS 2)) f cdv A outer s H E) (fun cls d _ H => E cls d H) := takes_of rfl rfl rfl rfl
  have hp : PassesOwn (model P w) (cxOf (L2.CX P w) P w K mg base ["one", "by"] "rounded" (defScope (topS 2)) f cdv A outer s H E).A (cxOf (L2.CX P w) P w K mg base ["one", "by"] "rounded" (defScope (topS 2)) f cdv A outer s H E).env (cxOf (L2.CX P w) P w K mg base ["one", "by"] "rounded" (defScope (topS 2)) f cdv A outer s H E).xe := passes_of rfl
  exact (ms_one (ms_ret (m_bin op_fdiv so_fdiv (m_bin op_addM so_add (m_bin op_mulM so_mul m_int (m_var 0)) (m_var 1)) (m_bin op_mulM so_mul m_int (m_var 1)))))
theorem c_rounded (h : Hd K mg) : Cal P w K mg base 1 "rounded" ["one", "by"] m_rounded := cal_of h.d_rounded sc_rounded rfl rfl (body_rounded h )
theorem body_shared (h : Hd K mg) (h_rounded : Cal P w K mg base 1 "rounded" ["one", "by"] m_rounded) (f : Addr) (cdv : Value) (A : Around) (outer : List PySem.Env) (s : Shared) (H : Hp) (E : XK) (hr : Room (1) (A.deeper (envOfC "shared" (defScope (topS 3)) s.heap.objs.size f cdv))) :
    PSsm (cxOf (L2.CX P w) P w K mg base ["one", "other", "share", "pairs", "left", "right"] "shared" (defScope (topS 3)) f cdv A outer s H E) (fun cls d _ H => E cls d H) (defBody (topS 3)) b_shared := by
  have hN := sc_shared.nd
  have hu := hr.units
  have hc : (cxOf (L2.CX P w) P w K mg base ["one", "other", "share", "pairs", "left", "right"] "shared" (defScope (topS 3)) f cdv A outer s H E).calm = true := rfl
  have tk : Takes (cxOf (L2.CX P w) P w K mg base ["one", "other", "share", "pairs", "left", "right"] "shared" (defScope (topS 3)) f cdv A outer s H E) (fun cls d _ H => E cls d H) := takes_of rfl rfl rfl rfl
  have hp : PassesOwn (model P w) (cxOf (L2.CX P w) P w K mg base ["one", "other", "share", "pairs", "left", "right"] "shared" (defScope (topS 3)) f cdv A outer s H E).A (cxOf (L2.CX P w) P w K mg base ["one", "other", "share", "pairs", "left", "right"] "shared" (defScope (topS 3)) f cdv A outer s H E).env (cxOf (L2.CX P w) P w K mg base ["one", "other", "share", "pairs", "left", "right"] "shared" (defScope (topS 3)) f cdv A outer s H E).xe := passes_of rfl
  exact (ms_cons (msv 3 hN (m_listzip hc (ma_cons (m_var 0) (ma_cons (m_var 1) ma_nil)) h.n_list h.n_zip))
    (ms_one (ms_ret (m_tuple (ma_cons (m_lc hc hN (mi_of (m_var 3)) (own := [("left", 4), ("right", 5)]) (blkOk_by (by kernel_rfl)) (by decide) (fun _ _ _ _ _ => (mg_tup hc (mgs_cons (mgn 4 hN) (mgs_cons (mgn 5 hN) mgs_nil)))) (fun _ _ _ _ _ => mts_nil) (fun _ _ _ _ _ => (m_calC (h_rounded.mono (by omega)) rfl hr takes0 (ma_cons (m_bin op_addM so_add (m_bin op_mulM so_mul (m_var 4) (m_bin op_sub so_sub m_int (m_var 2))) (m_bin op_mulM so_mul (m_var 5) (m_var 2))) (ma_cons m_int ma_nil))))) ma_nil) h.n_tuple))))
theorem c_shared (h : Hd K mg) (h_rounded : Cal P w K mg base 1 "rounded" ["one", "by"] m_rounded) : Cal P w K mg base 2 "shared" ["one", "other", "share"] m_shared := cal_of h.d_shared sc_shared rfl rfl (body_shared h h_rounded)
theorem body_grey (h : Hd K mg) (h_rounded : Cal P w K mg base 1 "rounded" ["one", "by"] m_rounded) (f : Addr) (cdv : Value) (A : Around) (outer : List PySem.Env) (s : Shared) (H : Hp) (E : XK) (hr : Room (1) (A.deeper (envOfC "grey" (defScope (topS 4)) s.heap.objs.size f cdv))) :
    PSsm (cxOf (L2.CX P w) P w K mg base ["colour", "red", "green", "blue", "cover", "part"] "grey" (defScope (topS 4)) f cdv A outer s H E) (fun cls d _ H => E cls d H) (defBody (topS 4)) b_grey := by
  have hN := sc_grey.nd
  have hu := hr.units
  have hc : (cxOf (L2.CX P w) P w K mg base ["colour", "red", "green", "blue", "cover", "part"] "grey" (defScope (topS 4)) f cdv A outer s H E).calm = true := rfl
  have tk : Takes (cxOf (L2.CX P w) P w K mg base ["colour", "red", "green", "blue", "cover", "part"] "grey" (defScope (topS 4)) f cdv A outer s H E) (fun cls d _ H => E cls d H) := takes_of rfl rfl rfl rfl
  have hp : PassesOwn (model P w) (cxOf (L2.CX P w) P w K mg base ["colour", "red", "green", "blue", "cover", "part"] "grey" (defScope (topS 4)) f cdv A outer s H E).A (cxOf (L2.CX P w) P w K mg base ["colour", "red", "green", "blue", "cover", "part"] "grey" (defScope (topS 4)) f cdv A outer s H E).env (cxOf (L2.CX P w) P w K mg base ["colour", "red", "green", "blue", "cover", "part"] "grey" (defScope (topS 4)) f cdv A outer s H E).xe := passes_of rfl
  exact (ms_cons (ms_asg (m_var 0) (mg_tup hc (mgs_cons (mgn 1 hN) (mgs_cons (mgn 2 hN) (mgs_cons (mgn 3 hN) (mgs_cons (mgn 4 hN) mgs_nil))))))
    (ms_cons (msv 5 hN (m_calC (h_rounded.mono (by omega)) rfl hr tk (ma_cons (m_bin op_addM so_add (m_bin op_addM so_add (m_bin op_mulM so_mul m_int (m_var 1)) (m_bin op_mulM so_mul m_int (m_var 2))) (m_bin op_mulM so_mul m_int (m_var 3))) (ma_cons m_int ma_nil))))
    (ms_one (ms_ret (m_tup (ma_cons (m_var 5) (ma_cons (m_var 5) (ma_cons (m_var 5) (ma_cons (m_var 4) ma_nil)))))))))
theorem c_grey (h : Hd K mg) (h_rounded : Cal P w K mg base 1 "rounded" ["one", "by"] m_rounded) : Cal P w K mg base 2 "grey" ["colour"] m_grey := cal_of h.d_grey sc_grey rfl rfl (body_grey h h_rounded)
theorem body_distance (h : Hd K mg) (f : Addr) (cdv : Value) (A : Around) (outer : List PySem.Env) (s : Shared) (H : Hp) (E : XK) (hr : Room (0) (A.deeper (envOfC "distance" (defScope (topS 5)) s.heap.objs.size f cdv))) :
    PSsm (cxOf (L2.CX P w) P w K mg base ["one", "other", "left", "right"] "distance" (defScope (topS 5)) f cdv A outer s H E) (fun cls d _ H => E cls d H) (defBody (topS 5)) b_distance := by
  have hN := sc_distance.nd
  have hu := hr.units
  have hc : (cxOf (L2.CX P w) P w K mg base ["one", "other", "left", "right"] "distance" (defScope (topS 5)) f cdv A outer s H E).calm = true := rfl
  have tk : Takes (cxOf (L2.CX P w) P w K mg base ["one", "other", "left", "right"] "distance" (defScope (topS 5)) f cdv A outer s H E) (fun cls d _ H => E cls d H) := takes_of rfl rfl rfl rfl
  have hp : PassesOwn (model P w) (cxOf (L2.CX P w) P w K mg base ["one", "other", "left", "right"] "distance" (defScope (topS 5)) f cdv A outer s H E).A (cxOf (L2.CX P w) P w K mg base ["one", "other", "left", "right"] "distance" (defScope (topS 5)) f cdv A outer s H E).env (cxOf (L2.CX P w) P w K mg base ["one", "other", "left", "right"] "distance" (defScope (topS 5)) f cdv A outer s H E).xe := passes_of rfl
  exact (ms_one (ms_ret (m_sum hc (ma_cons (m_lc hc hN (mi_zip h.n_zip (ma_cons (m_var 0) (ma_cons (m_var 1) ma_nil))) (own := [("left", 2), ("right", 3)]) (blkOk_by (by kernel_rfl)) (by decide) (fun _ _ _ _ _ => (mg_tup hc (mgs_cons (mgn 2 hN) (mgs_cons (mgn 3 hN) mgs_nil)))) (fun _ _ _ _ _ => mts_nil) (fun _ _ _ _ _ => (m_bin op_mulM so_mul (m_bin op_sub so_sub (m_var 2) (m_var 3)) (m_bin op_sub so_sub (m_var 2) (m_var 3))))) ma_nil) h.n_sum)))
theorem c_distance (h : Hd K mg) : Cal P w K mg base 1 "distance" ["one", "other"] m_distance := cal_of h.d_distance sc_distance rfl rfl (body_distance h )
theorem body_faded (h : Hd K mg) (h_rounded : Cal P w K mg base 1 "rounded" ["one", "by"] m_rounded) (f : Addr) (cdv : Value) (A : Around) (outer : List PySem.Env) (s : Shared) (H : Hp) (E : XK) (hr : Room (1) (A.deeper (envOfC "faded" (defScope (topS 6)) s.heap.objs.size f cdv))) :
    PSsm (cxOf (L2.CX P w) P w K mg base ["colour", "share"] "faded" (defScope (topS 6)) f cdv A outer s H E) (fun cls d _ H => E cls d H) (defBody (topS 6)) b_faded := by
  have hN := sc_faded.nd
  have hu := hr.units
  have hc : (cxOf (L2.CX P w) P w K mg base ["colour", "share"] "faded" (defScope (topS 6)) f cdv A outer s H E).calm = true := rfl
  have tk : Takes (cxOf (L2.CX P w) P w K mg base ["colour", "share"] "faded" (defScope (topS 6)) f cdv A outer s H E) (fun cls d _ H => E cls d H) := takes_of rfl rfl rfl rfl
  have hp : PassesOwn (model P w) (cxOf (L2.CX P w) P w K mg base ["colour", "share"] "faded" (defScope (topS 6)) f cdv A outer s H E).A (cxOf (L2.CX P w) P w K mg base ["colour", "share"] "faded" (defScope (topS 6)) f cdv A outer s H E).env (cxOf (L2.CX P w) P w K mg base ["colour", "share"] "faded" (defScope (topS 6)) f cdv A outer s H E).xe := passes_of rfl
  exact (ms_one (ms_ret (m_bin op_addM so_add (m_sl (m_var 0) mo_none (mo_some m_int)) (m_tup (ma_cons (m_calC (h_rounded.mono (by omega)) rfl hr tk (ma_cons (m_bin op_mulM so_mul (m_ix (m_var 0) m_int) (m_var 1)) (ma_cons m_int ma_nil))) ma_nil)))))
theorem c_faded (h : Hd K mg) (h_rounded : Cal P w K mg base 1 "rounded" ["one", "by"] m_rounded) : Cal P w K mg base 2 "faded" ["colour", "share"] m_faded := cal_of h.d_faded sc_faded rfl rfl (body_faded h h_rounded)
theorem body__law_mean (h : Hd K mg) (h__law_round : Cal P w K mg base 1 "_law_round" ["_law_one", "_law_by"] m__law_round) (f : Addr) (cdv : Value) (A : Around) (outer : List PySem.Env) (s : Shared) (H : Hp) (E : XK) (hr : Room (1) (A.deeper (envOfC "_law_mean" (defScope (topS 14)) s.heap.objs.size f cdv))) :
    PSsm (cxOf (L2.CX P w) P w K mg base ["_law_colours", "_law_whole", "_law_parts", "_law_spot", "_law_one"] "_law_mean" (defScope (topS 14)) f cdv A outer s H E) (fun cls d _ H => E cls d H) (defBody (topS 14)) b__law_mean := by
  have hN := sc__law_mean.nd
  have hu := hr.units
  have hc : (cxOf (L2.CX P w) P w K mg base ["_law_colours", "_law_whole", "_law_parts", "_law_spot", "_law_one"] "_law_mean" (defScope (topS 14)) f cdv A outer s H E).calm = true := rfl
  have tk : Takes (cxOf (L2.CX P w) P w K mg base ["_law_colours", "_law_whole", "_law_parts", "_law_spot", "_law_one"] "_law_mean" (defScope (topS 14)) f cdv A outer s H E) (fun cls d _ H => E cls d H) := takes_of rfl rfl rfl rfl
  have hp : PassesOwn (model P w) (cxOf (L2.CX P w) P w K mg base ["_law_colours", "_law_whole", "_law_parts", "_law_spot", "_law_one"] "_law_mean" (defScope (topS 14)) f cdv A outer s H E).A (cxOf (L2.CX P w) P w K mg base ["_law_colours", "_law_whole", "_law_parts", "_law_spot", "_law_one"] "_law_mean" (defScope (topS 14)) f cdv A outer s H E).env (cxOf (L2.CX P w) P w K mg base ["_law_colours", "_law_whole", "_law_parts", "_law_spot", "_law_one"] "_law_mean" (defScope (topS 14)) f cdv A outer s H E).xe := passes_of rfl
  exact (ms_cons (msv 1 hN (m_sum hc (ma_cons (m_lc hc hN (mi_of (m_var 0)) (own := [("_law_one", 4)]) (blkOk_by (by kernel_rfl)) (by decide) (fun _ _ _ _ _ => (mgn 4 hN)) (fun _ _ _ _ _ => mts_nil) (fun _ _ _ _ _ => (m_ix (m_var 4) m_int))) ma_nil) h.n_sum))
    (ms_cons (ms_if (mt_cmp (op_eqM hu) so_eq (m_var 1) m_int) (ms_one (ms_ret (m_tup (ma_cons m_int (ma_cons m_int (ma_cons m_int (ma_cons m_int ma_nil))))))) ms_nil)
    (ms_cons (mso 2 hN (mf_lst ma_nil))
    (ms_cons (ms_for hp (mi_range1 h.n_range (ma_cons m_int ma_nil)) (mgn 3 hN) (ms_one (ms_expr (m_append (m_var 2) (m_calC (h__law_round.mono (by omega)) rfl hr tk (ma_cons (m_sum hc (ma_cons (m_lc hc hN (mi_of (m_var 0)) (own := [("_law_one", 4)]) (blkOk_by (by kernel_rfl)) (by decide) (fun _ _ _ _ _ => (mgn 4 hN)) (fun _ _ _ _ _ => mts_nil) (fun _ _ _ _ _ => (m_bin op_mulM so_mul (m_ix (m_var 4) m_int) (m_ix (m_var 4) (m_var 3))))) ma_nil) h.n_sum) (ma_cons (m_var 1) ma_nil)))))))
    (ms_one (ms_ret (m_tup (ma_cons (m_ix (m_var 2) m_int) (ma_cons (m_ix (m_var 2) m_int) (ma_cons (m_ix (m_var 2) m_int) (ma_cons (m_calC (h__law_round.mono (by omega)) rfl hr tk (ma_cons (m_var 1) (ma_cons (m_len (ma_cons (m_var 0) ma_nil) h.n_len) ma_nil))) ma_nil)))))))))))
theorem c__law_mean (h : Hd K mg) (h__law_round : Cal P w K mg base 1 "_law_round" ["_law_one", "_law_by"] m__law_round) : Cal P w K mg base 2 "_law_mean" ["_law_colours"] m__law_mean := cal_of h.d__law_mean sc__law_mean rfl rfl (body__law_mean h h__law_round)
theorem body_mean_colour (h : Hd K mg) (h_rounded : Cal P w K mg base 1 "rounded" ["one", "by"] m_rounded) (f : Addr) (cdv : Value) (A : Around) (outer : List PySem.Env) (s : Shared) (H : Hp) (E : XK) (hr : Room (1) (A.deeper (envOfC "mean_colour" (defScope (topS 7)) s.heap.objs.size f cdv))) :
    PSsm (cxOf (L2.CX P w) P w K mg base ["colours", "whole", "parts", "one", "at"] "mean_colour" (defScope (topS 7)) f cdv A outer s H E) (fun cls d _ H => E cls d H) (defBody (topS 7)) b_mean_colour := by
  have hN := sc_mean_colour.nd
  have hu := hr.units
  have hc : (cxOf (L2.CX P w) P w K mg base ["colours", "whole", "parts", "one", "at"] "mean_colour" (defScope (topS 7)) f cdv A outer s H E).calm = true := rfl
  have tk : Takes (cxOf (L2.CX P w) P w K mg base ["colours", "whole", "parts", "one", "at"] "mean_colour" (defScope (topS 7)) f cdv A outer s H E) (fun cls d _ H => E cls d H) := takes_of rfl rfl rfl rfl
  have hp : PassesOwn (model P w) (cxOf (L2.CX P w) P w K mg base ["colours", "whole", "parts", "one", "at"] "mean_colour" (defScope (topS 7)) f cdv A outer s H E).A (cxOf (L2.CX P w) P w K mg base ["colours", "whole", "parts", "one", "at"] "mean_colour" (defScope (topS 7)) f cdv A outer s H E).env (cxOf (L2.CX P w) P w K mg base ["colours", "whole", "parts", "one", "at"] "mean_colour" (defScope (topS 7)) f cdv A outer s H E).xe := passes_of rfl
  exact (ms_cons (msv 1 hN (m_sum hc (ma_cons (m_lc hc hN (mi_of (m_var 0)) (own := [("one", 3)]) (blkOk_by (by kernel_rfl)) (by decide) (fun _ _ _ _ _ => (mgn 3 hN)) (fun _ _ _ _ _ => mts_nil) (fun _ _ _ _ _ => (m_ix (m_var 3) m_int))) ma_nil) h.n_sum))
    (ms_cons (ms_if (mt_cmp (op_eqM hu) so_eq (m_var 1) m_int) (ms_one (ms_ret (m_cst h.k_CLEAR))) ms_nil)
    (ms_cons (ms_setLc hc hN (i := 2) rfl rfl (sw_true rfl rfl rfl rfl) (mi_range1 h.n_range (ma_cons m_int ma_nil)) (own := [("at", 4)]) (blkOk_by (by kernel_rfl)) (by decide) (fun _ _ _ _ _ => (mgn 4 hN)) (fun _ _ _ _ _ => mts_nil) (fun _ _ _ _ _ => (m_calC (h_rounded.mono (by omega)) rfl hr takes0 (ma_cons (m_sum hc (ma_cons (m_lc hc hN (mi_of (m_var 0)) (own := [("one", 3)]) (blkOk_by (by kernel_rfl)) (by decide) (fun _ _ _ _ _ => (mgn 3 hN)) (fun _ _ _ _ _ => mts_nil) (fun _ _ _ _ _ => (m_bin op_mulM so_mul (m_ix (m_var 3) m_int) (m_ix (m_var 3) (m_var 4))))) ma_nil) h.n_sum) (ma_cons (m_var 1) ma_nil)))))
    (ms_one (ms_ret (m_tup (ma_cons (m_ix (m_var 2) m_int) (ma_cons (m_ix (m_var 2) m_int) (ma_cons (m_ix (m_var 2) m_int) (ma_cons (m_calC (h_rounded.mono (by omega)) rfl hr tk (ma_cons (m_var 1) (ma_cons (m_len (ma_cons (m_var 0) ma_nil) h.n_len) ma_nil))) ma_nil))))))))))
theorem c_mean_colour (h : Hd K mg) (h_rounded : Cal P w K mg base 1 "rounded" ["one", "by"] m_rounded) : Cal P w K mg base 2 "mean_colour" ["colours"] m_mean_colour := cal_of h.d_mean_colour sc_mean_colour rfl rfl (body_mean_colour h h_rounded)
theorem body_law (h : Hd K mg) (h__law_drawn_colour : Cal P w K mg base 3 "_law_drawn_colour" ["_law_script", "_law_town"] m__law_drawn_colour) (h__law_draw : Cal P w K mg base 1 "_law_draw" ["_law_script", "_law_town", "_law_many"] m__law_draw) (h__law_round : Cal P w K mg base 1 "_law_round" ["_law_one", "_law_by"] m__law_round) (h_shared : Cal P w K mg base 2 "shared" ["one", "other", "share"] m_shared) (h__law_same : Cal P w K mg base 8 "_law_same" ["_law_got", "_law_due"] (m__law_same 8)) (h_grey : Cal P w K mg base 2 "grey" ["colour"] m_grey) (h_distance : Cal P w K mg base 1 "distance" ["one", "other"] m_distance) (h_faded : Cal P w K mg base 2 "faded" ["colour", "share"] m_faded) (h__law_mean : Cal P w K mg base 2 "_law_mean" ["_law_colours"] m__law_mean) (h_mean_colour : Cal P w K mg base 2 "mean_colour" ["colours"] m_mean_colour) (f : Addr) (cdv : Value) (A : Around) (outer : List PySem.Env) (s : Shared) (H : Hp) (E : XK) (hr : Room (8) (A.deeper (envOfC "law" (defScope (topS 15)) s.heap.objs.size f cdv))) :
    PSsm (cxOf (L2.CX P w) P w K mg base ["_law_script", "_law_town", "_law_k", "_law_one", "_law_other", "_law_part", "_law_due", "_law_level", "_law_far", "_law_colours", "_law_left", "_law_right", "_law_number", "_law_j"] "law" (defScope (topS 15)) f cdv A outer s H E) (fun cls d _ H => E cls d H) (defBody (topS 15)) b_law := by
  have hN := sc_law.nd
  have hu := hr.units
  have hc : (cxOf (L2.CX P w) P w K mg base ["_law_script", "_law_town", "_law_k", "_law_one", "_law_other", "_law_part", "_law_due", "_law_level", "_law_far", "_law_colours", "_law_left", "_law_right", "_law_number", "_law_j"] "law" (defScope (topS 15)) f cdv A outer s H E).calm = true := rfl
  have tk : Takes (cxOf (L2.CX P w) P w K mg base ["_law_script", "_law_town", "_law_k", "_law_one", "_law_other", "_law_part", "_law_due", "_law_level", "_law_far", "_law_colours", "_law_left", "_law_right", "_law_number", "_law_j"] "law" (defScope (topS 15)) f cdv A outer s H E) (fun cls d _ H => E cls d H) := takes_of rfl rfl rfl rfl
  have hp : PassesOwn (model P w) (cxOf (L2.CX P w) P w K mg base ["_law_script", "_law_town", "_law_k", "_law_one", "_law_other", "_law_part", "_law_due", "_law_level", "_law_far", "_law_colours", "_law_left", "_law_right", "_law_number", "_law_j"] "law" (defScope (topS 15)) f cdv A outer s H E).A (cxOf (L2.CX P w) P w K mg base ["_law_script", "_law_town", "_law_k", "_law_one", "_law_other", "_law_part", "_law_due", "_law_level", "_law_far", "_law_colours", "_law_left", "_law_right", "_law_number", "_law_j"] "law" (defScope (topS 15)) f cdv A outer s H E).env (cxOf (L2.CX P w) P w K mg base ["_law_script", "_law_town", "_law_k", "_law_one", "_law_other", "_law_part", "_law_due", "_law_level", "_law_far", "_law_colours", "_law_left", "_law_right", "_law_number", "_law_j"] "law" (defScope (topS 15)) f cdv A outer s H E).xe := passes_of rfl
  exact (ms_cons (mst 1 hN)
    (ms_cons (ms_for hp (mi_range1 h.n_range (ma_cons m_int ma_nil)) (mgn 2 hN) (ms_cons (ms_par2 hN (i := 3) (j := 4) rfl rfl (by decide) rfl rfl (mh_va (m_calC (h__law_drawn_colour.mono (by omega)) rfl hr tk (ma_cons (m_var 0) (ma_cons (m_var 1) ma_nil))) (mh_va (m_calC (h__law_drawn_colour.mono (by omega)) rfl hr tk (ma_cons (m_var 0) (ma_cons (m_var 1) ma_nil))) mh_nil)))
    (ms_cons (msv 5 hN (m_calC (h__law_draw.mono (by omega)) rfl hr tk (ma_cons (m_var 0) (ma_cons (m_var 1) (ma_cons m_int ma_nil)))))
    (ms_cons (ms_setLc hc hN (i := 6) rfl rfl (sw_true rfl rfl rfl rfl) (mi_zip h.n_zip (ma_cons (m_var 3) (ma_cons (m_var 4) ma_nil))) (own := [("_law_left", 10), ("_law_right", 11)]) (blkOk_by (by kernel_rfl)) (by decide) (fun _ _ _ _ _ => (mg_tup hc (mgs_cons (mgn 10 hN) (mgs_cons (mgn 11 hN) mgs_nil)))) (fun _ _ _ _ _ => mts_nil) (fun _ _ _ _ _ => (m_calC (h__law_round.mono (by omega)) rfl hr takes0 (ma_cons (m_bin op_addM so_add (m_bin op_mulM so_mul (m_var 10) (m_bin op_sub so_sub m_int (m_var 5))) (m_bin op_mulM so_mul (m_var 11) (m_var 5))) (ma_cons m_int ma_nil)))))
    (ms_cons (ms_if (mt_not (mt_truth (m_calM (h__law_same.mono (by omega)) (recF_len _) rfl hr tk (ma_cons (m_calC (h_shared.mono (by omega)) rfl hr tk (ma_cons (m_var 3) (ma_cons (m_var 4) (ma_cons (m_var 5) ma_nil)))) (ma_cons (m_tuple (ma_cons (m_var 6) ma_nil) h.n_tuple) ma_nil))))) (ms_one (ms_ret m_bl)) ms_nil)
    (ms_cons (msv 7 hN (m_calC (h__law_round.mono (by omega)) rfl hr tk (ma_cons (m_bin op_addM so_add (m_bin op_addM so_add (m_bin op_mulM so_mul m_int (m_ix (m_var 3) m_int)) (m_bin op_mulM so_mul m_int (m_ix (m_var 3) m_int))) (m_bin op_mulM so_mul m_int (m_ix (m_var 3) m_int))) (ma_cons m_int ma_nil))))
    (ms_cons (ms_if (mt_not (mt_truth (m_calM (h__law_same.mono (by omega)) (recF_len _) rfl hr tk (ma_cons (m_calC (h_grey.mono (by omega)) rfl hr tk (ma_cons (m_var 3) ma_nil)) (ma_cons (m_tup (ma_cons (m_var 7) (ma_cons (m_var 7) (ma_cons (m_var 7) (ma_cons (m_ix (m_var 3) m_int) ma_nil))))) ma_nil))))) (ms_one (ms_ret m_bl)) ms_nil)
    (ms_cons (ms_setLc hc hN (i := 8) rfl rfl (sw_true rfl rfl rfl rfl) (mi_zip h.n_zip (ma_cons (m_var 3) (ma_cons (m_var 4) ma_nil))) (own := [("_law_left", 10), ("_law_right", 11)]) (blkOk_by (by kernel_rfl)) (by decide) (fun _ _ _ _ _ => (mg_tup hc (mgs_cons (mgn 10 hN) (mgs_cons (mgn 11 hN) mgs_nil)))) (fun _ _ _ _ _ => mts_nil) (fun _ _ _ _ _ => (m_bin op_sub so_sub (m_var 10) (m_var 11))))
    (ms_cons (ms_if (mt_not (mt_truth (m_calM (h__law_same.mono (by omega)) (recF_len _) rfl hr tk (ma_cons (m_calC (h_distance.mono (by omega)) rfl hr tk (ma_cons (m_var 3) (ma_cons (m_var 4) ma_nil))) (ma_cons (m_sum hc (ma_cons (m_lc hc hN (mi_of (m_var 8)) (own := [("_law_number", 12)]) (blkOk_by (by kernel_rfl)) (by decide) (fun _ _ _ _ _ => (mgn 12 hN)) (fun _ _ _ _ _ => mts_nil) (fun _ _ _ _ _ => (m_bin op_mulM so_mul (m_var 12) (m_var 12)))) ma_nil) h.n_sum) ma_nil))))) (ms_one (ms_ret m_bl)) ms_nil)
    (ms_cons (ms_if (mt_not (mt_truth (m_calM (h__law_same.mono (by omega)) (recF_len _) rfl hr tk (ma_cons (m_calC (h_faded.mono (by omega)) rfl hr tk (ma_cons (m_var 3) (ma_cons (m_var 5) ma_nil))) (ma_cons (m_bin op_addM so_add (m_sl (m_var 3) mo_none (mo_some m_int)) (m_tup (ma_cons (m_calC (h__law_round.mono (by omega)) rfl hr tk (ma_cons (m_bin op_mulM so_mul (m_ix (m_var 3) m_int) (m_var 5)) (ma_cons m_int ma_nil))) ma_nil))) ma_nil))))) (ms_one (ms_ret m_bl)) ms_nil)
    (ms_cons (ms_setLc hc hN (i := 9) rfl rfl (sw_true rfl rfl rfl rfl) (mi_range1 h.n_range (ma_cons (m_bin op_addM so_add m_int (m_calC (h__law_draw.mono (by omega)) rfl hr tk (ma_cons (m_var 0) (ma_cons (m_var 1) (ma_cons m_int ma_nil))))) ma_nil)) (own := [("_law_j", 13)]) (blkOk_by (by kernel_rfl)) (by decide) (fun _ _ _ _ _ => (mgn 13 hN)) (fun _ _ _ _ _ => mts_nil) (fun _ _ _ _ _ => (m_calC (h__law_drawn_colour.mono (by omega)) rfl hr takes0 (ma_cons (m_var 0) (ma_cons (m_var 1) ma_nil)))))
    (ms_cons (ms_if (mt_not (mt_truth (m_calM (h__law_same.mono (by omega)) (recF_len _) rfl hr tk (ma_cons (m_calC (h_mean_colour.mono (by omega)) rfl hr tk (ma_cons (m_tuple (ma_cons (m_sl (m_var 9) mo_none (mo_some m_int)) ma_nil) h.n_tuple) ma_nil)) (ma_cons (m_calC (h__law_mean.mono (by omega)) rfl hr tk (ma_cons (m_sl (m_var 9) mo_none (mo_some m_int)) ma_nil)) ma_nil))))) (ms_one (ms_ret m_bl)) ms_nil)
    (ms_one (ms_if (mt_not (mt_truth (m_calM (h__law_same.mono (by omega)) (recF_len _) rfl hr tk (ma_cons (m_calC (h_mean_colour.mono (by omega)) rfl hr tk (ma_cons (m_tuple (ma_cons (m_var 9) ma_nil) h.n_tuple) ma_nil)) (ma_cons (m_calC (h__law_mean.mono (by omega)) rfl hr tk (ma_cons (m_var 9) ma_nil)) ma_nil))))) (ms_one (ms_ret m_bl)) ms_nil))))))))))))))
    (ms_one (ms_ret m_bl))))
end
theorem all_ok {w : World} {K : PySem.W.Frag} {mg : Str → Option Value} {fa : Addr} (h : Hd K mg) (hfa : mg "law" = some (.ref fa)) (hm : ∀ ns : List Int, ns.length ≤ 63 → ∃ w', m_law [.scr ns] ⟨none⟩ = some (.val (.bl true) w')) :
    ∃ fd : FuncData, (∀ (s : Shared) (u : Value), BindsTo s fd ⟨[u], []⟩ [("_law_script", u)]) ∧ ∀ base : Heap, K.In base → base.Ns mainGlobals mg → FnOk PySem.Challenge.pw_paintyard_k02_colours_by_hand w K mg base (L2.CX PySem.Challenge.pw_paintyard_k02_colours_by_hand w) 9 fa fd ["_law_script"] (spLaw K) := by
  refine law_of (k := 8) hfa h.d_law sc_law rfl hm fun base _ _ => ?_
  have h__law_draw := c__law_draw (P := PySem.Challenge.pw_paintyard_k02_colours_by_hand) (w := w) (base := base) h 
  have h__law_pick := c__law_pick (P := PySem.Challenge.pw_paintyard_k02_colours_by_hand) (w := w) (base := base) h h__law_draw
  have h__law_drawn_colour := c__law_drawn_colour (P := PySem.Challenge.pw_paintyard_k02_colours_by_hand) (w := w) (base := base) h h__law_draw h__law_pick
  have h__law_round := c__law_round (P := PySem.Challenge.pw_paintyard_k02_colours_by_hand) (w := w) (base := base) h 
  have h__law_same := c__law_same (P := PySem.Challenge.pw_paintyard_k02_colours_by_hand) (w := w) (base := base) h 
  have h_rounded := c_rounded (P := PySem.Challenge.pw_paintyard_k02_colours_by_hand) (w := w) (base := base) h 
  have h_shared := c_shared (P := PySem.Challenge.pw_paintyard_k02_colours_by_hand) (w := w) (base := base) h h_rounded
  have h_grey := c_grey (P := PySem.Challenge.pw_paintyard_k02_colours_by_hand) (w := w) (base := base) h h_rounded
  have h_distance := c_distance (P := PySem.Challenge.pw_paintyard_k02_colours_by_hand) (w := w) (base := base) h 
  have h_faded := c_faded (P := PySem.Challenge.pw_paintyard_k02_colours_by_hand) (w := w) (base := base) h h_rounded
  have h__law_mean := c__law_mean (P := PySem.Challenge.pw_paintyard_k02_colours_by_hand) (w := w) (base := base) h h__law_round
  have h_mean_colour := c_mean_colour (P := PySem.Challenge.pw_paintyard_k02_colours_by_hand) (w := w) (base := base) h h_rounded
  exact body_law h h__law_drawn_colour h__law_draw h__law_round h_shared h__law_same h_grey h_distance h_faded h__law_mean h_mean_colour
end Lw

namespace Lw
open PySem PySem.Spec PyProof.Rows L2 Pm
theorem lmean_eq {cs : List C4} {w : W} (hc : ∀ c ∈ cs, okc c) (hn : 0 < cs.length) (hl : cs.length ≤ 10000) : m__law_mean [.lst (cs.map col)] w = some (.val (meanD cs) w) := by
  obtain ⟨b1, b2⟩ := sum_bd (f := fun c : C4 => c.2.2.2) (l := cs) (b := 255) fun c h => ⟨(hc c h).2.2.2.1, (hc c h).2.2.2.2⟩
  have k1 : compL [4] (pName 4) bYes (dBin ixD (dVar 4) (dC (.int 3))) (cs.map col) ⟨[.va (.lst (cs.map col)), .no, .no, .no, .no], w⟩ = .ok (cs.map fun c => .int c.2.2.2) ⟨[.va (.lst (cs.map col)), .no, .no, .no, .no], w⟩ :=
    compL_of _ _ cs rfl fun c h => ⟨_, _, rfl, rfl, rfl, rfl⟩
  have k2 : ∀ (S : Int) (x : Sl) (i : Int) (F : C4 → Int), (i = 0 ∧ F = fun c => c.2.2.2 * c.1) ∨ (i = 1 ∧ F = fun c => c.2.2.2 * c.2.1) ∨ (i = 2 ∧ F = fun c => c.2.2.2 * c.2.2.1) → compL [4] (pName 4) bYes (dBin mulD (dBin ixD (dVar 4) (dC (.int 3))) (dBin ixD (dVar 4) (dVar 3))) (cs.map col) ⟨[.va (.lst (cs.map col)), .va (.int S), x, .va (.int i), .no], w⟩ = .ok (cs.map fun c => .int (F c)) ⟨[.va (.lst (cs.map col)), .va (.int S), x, .va (.int i), .no], w⟩ := fun S x i F hi => by
    refine compL_of _ _ cs rfl fun c h => ⟨_, ⟨[.va (.lst (cs.map col)), .va (.int S), x, .va (.int i), .va (col c)], w⟩, rfl, ?_, rfl, rfl⟩
    have := hc c h
    unfold okc at this
    rcases hi with ⟨rfl, rfl⟩ | ⟨rfl, rfl⟩ | ⟨rfl, rfl⟩ <;> simp (config := { maxSteps := 3000000 }) (disch := ((try simp only [List.length_map, List.length_cons, List.length_nil, List.length_append, List.length_replicate, List.length_set]); omega)) only [e_seq, e_drop, e_act, e_var, e_cons, e_nil, e_c, bind_ok, bind_bad, bind_ex, al_bind, al_ok, al_ne, al_callR, e_rstown, e_rsown, e_fzcons, e_fznil, e_fzown, fz_non, fz_bl, fz_int, fz_str, fz_tup, fz_lst, fz_scr, fz_town, rs_non, rs_bl, rs_int, rs_str, rs_tup, rs_lst, rs_scr, e_appT, e_appO, e_extO, e_setO, e_setT, List.getElem?_cons_zero, List.getElem?_cons_succ, List.getElem?_nil, e_set, e_own, e_sub, e_asg, e_for, e_par, e_hnil, e_hva, e_how, puts_nil, puts_cons, e_cb, e_rslcons, e_rslnil, Option.bind_some, Option.map_some, lenF, opt_some, opt_none, put_mk, List.set_cons_succ, List.set_cons_zero, List.length_map, List.length_cons, List.length_nil, e_bin, e_call, e_tup, e_lst, e_sl, e_onone, e_osome, e_tru, e_of, e_band, e_bor, e_bnot, e_if, e_and, e_or, e_not, e_neg, e_chain, e_isi, e_next, e_sif, e_ret, e_comp, e_yes, e_iof, e_izip, e_rng1, e_rng2, e_name, e_pnil, e_pcons, e_ptup, o_add, o_sub, o_lt, o_le, o_gt, o_ge, o_eq, o_ne, finQ_ret, finQ_next, tupF, lstF, absF, intF, truD, itemsD, zipD, slD, o_mulL, o_mulR, o_div, o_mod, sz_le, sz_lt, o_addT, o_addL, wipeS, ixD, col, col_at0, col_at1, col_at2, col_at3]
  apply eq_of_mal
  unfold m__law_mean
  rw [mal_mF (by rfl)]
  unfold b__law_mean l0__law_mean
  simp only [List.map_cons, List.map_nil, List.length_cons, List.length_nil, List.replicate, List.cons_append, List.nil_append]
  simp (config := { maxSteps := 3000000 }) (disch := ((try simp only [List.length_map, List.length_cons, List.length_nil, List.length_append, List.length_replicate, List.length_set]); omega)) only [e_seq, e_drop, e_act, e_var, e_cons, e_nil, e_c, bind_ok, bind_bad, bind_ex, al_bind, al_ok, al_ne, al_callR, e_rstown, e_rsown, e_fzcons, e_fznil, e_fzown, fz_non, fz_bl, fz_int, fz_str, fz_tup, fz_lst, fz_scr, fz_town, rs_non, rs_bl, rs_int, rs_str, rs_tup, rs_lst, rs_scr, e_appT, e_appO, e_extO, e_setO, e_setT, List.getElem?_cons_zero, List.getElem?_cons_succ, List.getElem?_nil, e_set, e_own, e_sub, e_asg, e_for, e_par, e_hnil, e_hva, e_how, puts_nil, puts_cons, e_cb, e_rslcons, e_rslnil, Option.bind_some, Option.map_some, lenF, opt_some, opt_none, put_mk, List.set_cons_succ, List.set_cons_zero, List.length_map, List.length_cons, List.length_nil, e_bin, e_call, e_tup, e_lst, e_sl, e_onone, e_osome, e_tru, e_of, e_band, e_bor, e_bnot, e_if, e_and, e_or, e_not, e_neg, e_chain, e_isi, e_next, e_sif, e_ret, e_comp, e_yes, e_iof, e_izip, e_rng1, e_rng2, e_name, e_pnil, e_pcons, e_ptup, o_add, o_sub, o_lt, o_le, o_gt, o_ge, o_eq, o_ne, finQ_ret, finQ_next, tupF, lstF, absF, intF, truD, itemsD, zipD, slD, o_mulL, o_mulR, o_div, o_mod, sz_le, sz_lt, o_addT, o_addL, e_nonil, e_nocons, slNo_no, slNo_va, e_wnil, e_wcons, e_bnil, e_bcons, e_cnil, e_ccons, e_znil, e_zcons, Bool.and_self, Bool.and_true, Bool.true_and, if_true, List.getD_cons_zero, List.getD_cons_succ, Mal_val, k1, sumF_of]
  unfold meanD
  by_cases h0 : (cs.map (·.2.2.2)).sum = 0
  · simp only [h0, beq_self_eq_true, if_true, e_seq, e_drop, e_act, e_var, e_cons, e_nil, e_c, bind_ok, bind_bad, bind_ex, al_bind, al_ok, al_ne, al_callR, e_rstown, e_rsown, e_fzcons, e_fznil, e_fzown, fz_non, fz_bl, fz_int, fz_str, fz_tup, fz_lst, fz_scr, fz_town, rs_non, rs_bl, rs_int, rs_str, rs_tup, rs_lst, rs_scr, e_appT, e_appO, e_extO, e_setO, e_setT, List.getElem?_cons_zero, List.getElem?_cons_succ, List.getElem?_nil, e_set, e_own, e_sub, e_asg, e_for, e_par, e_hnil, e_hva, e_how, puts_nil, puts_cons, e_cb, e_rslcons, e_rslnil, Option.bind_some, Option.map_some, lenF, opt_some, opt_none, put_mk, List.set_cons_succ, List.set_cons_zero, List.length_map, List.length_cons, List.length_nil, e_bin, e_call, e_tup, e_lst, e_sl, e_onone, e_osome, e_tru, e_of, e_band, e_bor, e_bnot, e_if, e_and, e_or, e_not, e_neg, e_chain, e_isi, e_next, e_sif, e_ret, e_comp, e_yes, e_iof, e_izip, e_rng1, e_rng2, e_name, e_pnil, e_pcons, e_ptup, o_add, o_sub, o_lt, o_le, o_gt, o_ge, o_eq, o_ne, finQ_ret, finQ_next, tupF, lstF, absF, intF, truD, itemsD, zipD, slD, o_mulL, o_mulR, o_div, o_mod, sz_le, sz_lt, o_addT, o_addL]
    exact ⟨by first | rfl | trivial, by first | rfl | trivial⟩
  · have hb : ((cs.map (·.2.2.2)).sum == 0) = false := by simpa using h0
    simp (config := { maxSteps := 3000000 }) (disch := ((try simp only [List.length_map, List.length_cons, List.length_nil, List.length_append, List.length_replicate, List.length_set]); omega)) only [hb, Bool.false_eq_true, if_false, e_seq, e_drop, e_act, e_var, e_cons, e_nil, e_c, bind_ok, bind_bad, bind_ex, al_bind, al_ok, al_ne, al_callR, e_rstown, e_rsown, e_fzcons, e_fznil, e_fzown, fz_non, fz_bl, fz_int, fz_str, fz_tup, fz_lst, fz_scr, fz_town, rs_non, rs_bl, rs_int, rs_str, rs_tup, rs_lst, rs_scr, e_appT, e_appO, e_extO, e_setO, e_setT, List.getElem?_cons_zero, List.getElem?_cons_succ, List.getElem?_nil, e_set, e_own, e_sub, e_asg, e_for, e_par, e_hnil, e_hva, e_how, puts_nil, puts_cons, e_cb, e_rslcons, e_rslnil, Option.bind_some, Option.map_some, lenF, opt_some, opt_none, put_mk, List.set_cons_succ, List.set_cons_zero, List.length_map, List.length_cons, List.length_nil, e_bin, e_call, e_tup, e_lst, e_sl, e_onone, e_osome, e_tru, e_of, e_band, e_bor, e_bnot, e_if, e_and, e_or, e_not, e_neg, e_chain, e_isi, e_next, e_sif, e_ret, e_comp, e_yes, e_iof, e_izip, e_rng1, e_rng2, e_name, e_pnil, e_pcons, e_ptup, o_add, o_sub, o_lt, o_le, o_gt, o_ge, o_eq, o_ne, finQ_ret, finQ_next, tupF, lstF, absF, intF, truD, itemsD, zipD, slD, o_mulL, o_mulR, o_div, o_mod, sz_le, sz_lt, o_addT, o_addL, e_nonil, e_nocons, slNo_no, slNo_va, e_wnil, e_wcons, e_bnil, e_bcons, e_cnil, e_ccons, e_znil, e_zcons, Bool.and_self, Bool.and_true, Bool.true_and, if_true, List.getD_cons_zero, List.getD_cons_succ, Mal_val, show rngL 0 3 1 = some _ from rng_nat 3 (by decide), show (List.range 3).map (fun k : Nat => D.int k) = [.int 0, .int 1, .int 2] from rfl, forL, k2 _ _ 0 _ (.inl ⟨rfl, rfl⟩), k2 _ _ 1 _ (.inr (.inl ⟨rfl, rfl⟩)), k2 _ _ 2 _ (.inr (.inr ⟨rfl, rfl⟩)), sumF_of, round_eq, ixD, at0, at1, at2, if_neg h0, callR, List.nil_append, List.cons_append]
    exact ⟨by first | rfl | trivial, by first | rfl | trivial⟩
theorem same4 {a b c d : Int} {w : W} : m__law_same 8 [.tup [.int a, .int b, .int c, .int d], .tup [.int a, .int b, .int c, .int d]] w = some (.val (.bl true) w) := same_ok 7 _ w rfl
theorem same1 {a : Int} {w : W} : m__law_same 8 [.int a, .int a] w = some (.val (.bl true) w) := same_ok 7 _ w rfl
theorem sameM {cs : List C4} {w : W} : m__law_same 8 [meanD cs, meanD cs] w = some (.val (.bl true) w) := same_ok 7 _ w (by unfold meanD; split <;> rfl)
theorem meanD_pl (cs : List C4) : pl (meanD cs) = true := by unfold meanD; split <;> rfl
theorem step_ok (ns t : List Int) (hn : ns.length ≤ 63) (ht : t.length < 10000) (x2 x3 x4 x5 x6 x7 x8 x9 : Sl) : (l0_law ⟨[.va (.scr ns), .va .town, x2, x3, x4, x5, x6, x7, x8, x9, .no, .no, .no, .no], ⟨some t⟩⟩).al fun fl s2 => (fl = .next ∨ fl = .cont) ∧ ∃ t' x2 x3 x4 x5 x6 x7 x8 x9, s2 = ⟨[.va (.scr ns), .va .town, x2, x3, x4, x5, x6, x7, x8, x9, .no, .no, .no, .no], ⟨some t'⟩⟩ ∧ t'.length ≤ t.length + 200 := by
  unfold l0_law
  simp (config := { maxSteps := 3000000 }) (disch := ((try simp only [List.length_map, List.length_cons, List.length_nil, List.length_append, List.length_replicate, List.length_set]); omega)) only [e_seq, e_drop, e_act, e_var, e_cons, e_nil, e_c, bind_ok, bind_bad, bind_ex, al_bind, al_ok, al_ne, al_callR, e_rstown, e_rsown, e_fzcons, e_fznil, e_fzown, fz_non, fz_bl, fz_int, fz_str, fz_tup, fz_lst, fz_scr, fz_town, rs_non, rs_bl, rs_int, rs_str, rs_tup, rs_lst, rs_scr, e_appT, e_appO, e_extO, e_setO, e_setT, List.getElem?_cons_zero, List.getElem?_cons_succ, List.getElem?_nil, e_set, e_own, e_sub, e_asg, e_for, e_par, e_hnil, e_hva, e_how, puts_nil, puts_cons, e_cb, e_rslcons, e_rslnil, Option.bind_some, Option.map_some, lenF, opt_some, opt_none, put_mk, List.set_cons_succ, List.set_cons_zero, List.length_map, List.length_cons, List.length_nil, e_bin, e_call, e_tup, e_lst, e_sl, e_onone, e_osome, e_tru, e_of, e_band, e_bor, e_bnot, e_if, e_and, e_or, e_not, e_neg, e_chain, e_isi, e_next, e_sif, e_ret, e_comp, e_yes, e_iof, e_izip, e_rng1, e_rng2, e_name, e_pnil, e_pcons, e_ptup, o_add, o_sub, o_lt, o_le, o_gt, o_ge, o_eq, o_ne, finQ_ret, finQ_next, tupF, lstF, absF, intF, truD, itemsD, zipD, slD, o_mulL, o_mulR, o_div, o_mod, sz_le, sz_lt, o_addT, o_addL, e_nonil, e_nocons, slNo_no, slNo_va, e_wnil, e_wcons, e_bnil, e_bcons, e_cnil, e_ccons, e_znil, e_zcons, Bool.and_self, Bool.and_true, Bool.true_and, if_true, List.getD_cons_zero, List.getD_cons_succ, Mal_val]
  refine (drawn_colour_ok ns t hn (by omega)).mono fun d w ⟨⟨a, b, c, d0, e1, ha, hb, hc, hd⟩, t1, e2, h1⟩ => ?_
  subst e1 e2
  simp (config := { maxSteps := 3000000 }) (disch := ((try simp only [List.length_map, List.length_cons, List.length_nil, List.length_append, List.length_replicate, List.length_set]); omega)) only [e_seq, e_drop, e_act, e_var, e_cons, e_nil, e_c, bind_ok, bind_bad, bind_ex, al_bind, al_ok, al_ne, al_callR, e_rstown, e_rsown, e_fzcons, e_fznil, e_fzown, fz_non, fz_bl, fz_int, fz_str, fz_tup, fz_lst, fz_scr, fz_town, rs_non, rs_bl, rs_int, rs_str, rs_tup, rs_lst, rs_scr, e_appT, e_appO, e_extO, e_setO, e_setT, List.getElem?_cons_zero, List.getElem?_cons_succ, List.getElem?_nil, e_set, e_own, e_sub, e_asg, e_for, e_par, e_hnil, e_hva, e_how, puts_nil, puts_cons, e_cb, e_rslcons, e_rslnil, Option.bind_some, Option.map_some, lenF, opt_some, opt_none, put_mk, List.set_cons_succ, List.set_cons_zero, List.length_map, List.length_cons, List.length_nil, e_bin, e_call, e_tup, e_lst, e_sl, e_onone, e_osome, e_tru, e_of, e_band, e_bor, e_bnot, e_if, e_and, e_or, e_not, e_neg, e_chain, e_isi, e_next, e_sif, e_ret, e_comp, e_yes, e_iof, e_izip, e_rng1, e_rng2, e_name, e_pnil, e_pcons, e_ptup, o_add, o_sub, o_lt, o_le, o_gt, o_ge, o_eq, o_ne, finQ_ret, finQ_next, tupF, lstF, absF, intF, truD, itemsD, zipD, slD, o_mulL, o_mulR, o_div, o_mod, sz_le, sz_lt, o_addT, o_addL, e_nonil, e_nocons, slNo_no, slNo_va, e_wnil, e_wcons, e_bnil, e_bcons, e_cnil, e_ccons, e_znil, e_zcons, Bool.and_self, Bool.and_true, Bool.true_and, if_true, List.getD_cons_zero, List.getD_cons_succ, Mal_val]
  refine (drawn_colour_ok ns t1 hn (by omega)).mono fun d w ⟨⟨a', b', c', d', e1, ha', hb', hc', hd'⟩, t2, e2, h2⟩ => ?_
  subst e1 e2
  simp (config := { maxSteps := 3000000 }) (disch := ((try simp only [List.length_map, List.length_cons, List.length_nil, List.length_append, List.length_replicate, List.length_set]); omega)) only [e_seq, e_drop, e_act, e_var, e_cons, e_nil, e_c, bind_ok, bind_bad, bind_ex, al_bind, al_ok, al_ne, al_callR, e_rstown, e_rsown, e_fzcons, e_fznil, e_fzown, fz_non, fz_bl, fz_int, fz_str, fz_tup, fz_lst, fz_scr, fz_town, rs_non, rs_bl, rs_int, rs_str, rs_tup, rs_lst, rs_scr, e_appT, e_appO, e_extO, e_setO, e_setT, List.getElem?_cons_zero, List.getElem?_cons_succ, List.getElem?_nil, e_set, e_own, e_sub, e_asg, e_for, e_par, e_hnil, e_hva, e_how, puts_nil, puts_cons, e_cb, e_rslcons, e_rslnil, Option.bind_some, Option.map_some, lenF, opt_some, opt_none, put_mk, List.set_cons_succ, List.set_cons_zero, List.length_map, List.length_cons, List.length_nil, e_bin, e_call, e_tup, e_lst, e_sl, e_onone, e_osome, e_tru, e_of, e_band, e_bor, e_bnot, e_if, e_and, e_or, e_not, e_neg, e_chain, e_isi, e_next, e_sif, e_ret, e_comp, e_yes, e_iof, e_izip, e_rng1, e_rng2, e_name, e_pnil, e_pcons, e_ptup, o_add, o_sub, o_lt, o_le, o_gt, o_ge, o_eq, o_ne, finQ_ret, finQ_next, tupF, lstF, absF, intF, truD, itemsD, zipD, slD, o_mulL, o_mulR, o_div, o_mod, sz_le, sz_lt, o_addT, o_addL, e_nonil, e_nocons, slNo_no, slNo_va, e_wnil, e_wcons, e_bnil, e_bcons, e_cnil, e_ccons, e_znil, e_zcons, Bool.and_self, Bool.and_true, Bool.true_and, if_true, List.getD_cons_zero, List.getD_cons_succ, Mal_val]
  refine (draw_ok ns t2 256 (by decide) hn (by omega)).mono fun d w ⟨p, t3, e1, e2, p1, p2, p3, p4⟩ => ?_
  subst e1 e2
  have hx : ∀ x ∈ [a, b, c, d0, a', b', c', d'], 0 ≤ x ∧ x ≤ 255 := by simp only [List.mem_cons, List.not_mem_nil, or_false, forall_eq_or_imp, forall_eq]; omega
  simp (config := { maxSteps := 3000000 }) (disch := ((try simp only [List.length_map, List.length_cons, List.length_nil, List.length_append, List.length_replicate, List.length_set]); omega)) only [e_seq, e_drop, e_act, e_var, e_cons, e_nil, e_c, bind_ok, bind_bad, bind_ex, al_bind, al_ok, al_ne, al_callR, e_rstown, e_rsown, e_fzcons, e_fznil, e_fzown, fz_non, fz_bl, fz_int, fz_str, fz_tup, fz_lst, fz_scr, fz_town, rs_non, rs_bl, rs_int, rs_str, rs_tup, rs_lst, rs_scr, e_appT, e_appO, e_extO, e_setO, e_setT, List.getElem?_cons_zero, List.getElem?_cons_succ, List.getElem?_nil, e_set, e_own, e_sub, e_asg, e_for, e_par, e_hnil, e_hva, e_how, puts_nil, puts_cons, e_cb, e_rslcons, e_rslnil, Option.bind_some, Option.map_some, lenF, opt_some, opt_none, put_mk, List.set_cons_succ, List.set_cons_zero, List.length_map, List.length_cons, List.length_nil, e_bin, e_call, e_tup, e_lst, e_sl, e_onone, e_osome, e_tru, e_of, e_band, e_bor, e_bnot, e_if, e_and, e_or, e_not, e_neg, e_chain, e_isi, e_next, e_sif, e_ret, e_comp, e_yes, e_iof, e_izip, e_rng1, e_rng2, e_name, e_pnil, e_pcons, e_ptup, o_add, o_sub, o_lt, o_le, o_gt, o_ge, o_eq, o_ne, finQ_ret, finQ_next, tupF, lstF, absF, intF, truD, itemsD, zipD, slD, o_mulL, o_mulR, o_div, o_mod, sz_le, sz_lt, o_addT, o_addL, e_nonil, e_nocons, slNo_no, slNo_va, e_wnil, e_wcons, e_bnil, e_bcons, e_cnil, e_ccons, e_znil, e_zcons, Bool.and_self, Bool.and_true, Bool.true_and, if_true, List.getD_cons_zero, List.getD_cons_succ, Mal_val, shared_eq, faded_eq, distance_eq hx, grey_eq, round_eq, same4, same1, ixD, at0, at1, at2, at3, greyI, Bool.not_true, Bool.false_eq_true, if_false, bne_self_eq_false, sumF, intsOf, List.sum_cons, List.sum_nil, show ∀ a b c d : Int, cutL [D.int a, .int b, .int c, .int d] none (some 3) = [.int a, .int b, .int c] from fun _ _ _ _ => rfl, List.cons_append, List.nil_append]
  refine (draw_ok ns t3 5 (by decide) hn (by omega)).mono fun d w ⟨m, t4, e1, e2, m1, m2, m3, m4⟩ => ?_
  subst e1 e2
  have rg : rngL 0 (1 + m) 1 = some ((List.range (1 + m).toNat).map fun k => .int k) := by
    have := rng_nat (1 + m).toNat (by omega)
    rwa [Int.toNat_of_nonneg (by omega)] at this
  simp (config := { maxSteps := 3000000 }) (disch := ((try simp only [List.length_map, List.length_cons, List.length_nil, List.length_append, List.length_replicate, List.length_set]); omega)) only [e_seq, e_drop, e_act, e_var, e_cons, e_nil, e_c, bind_ok, bind_bad, bind_ex, al_bind, al_ok, al_ne, al_callR, e_rstown, e_rsown, e_fzcons, e_fznil, e_fzown, fz_non, fz_bl, fz_int, fz_str, fz_tup, fz_lst, fz_scr, fz_town, rs_non, rs_bl, rs_int, rs_str, rs_tup, rs_lst, rs_scr, e_appT, e_appO, e_extO, e_setO, e_setT, List.getElem?_cons_zero, List.getElem?_cons_succ, List.getElem?_nil, e_set, e_own, e_sub, e_asg, e_for, e_par, e_hnil, e_hva, e_how, puts_nil, puts_cons, e_cb, e_rslcons, e_rslnil, Option.bind_some, Option.map_some, lenF, opt_some, opt_none, put_mk, List.set_cons_succ, List.set_cons_zero, List.length_map, List.length_cons, List.length_nil, e_bin, e_call, e_tup, e_lst, e_sl, e_onone, e_osome, e_tru, e_of, e_band, e_bor, e_bnot, e_if, e_and, e_or, e_not, e_neg, e_chain, e_isi, e_next, e_sif, e_ret, e_comp, e_yes, e_iof, e_izip, e_rng1, e_rng2, e_name, e_pnil, e_pcons, e_ptup, o_add, o_sub, o_lt, o_le, o_gt, o_ge, o_eq, o_ne, finQ_ret, finQ_next, tupF, lstF, absF, intF, truD, itemsD, zipD, slD, o_mulL, o_mulR, o_div, o_mod, sz_le, sz_lt, o_addT, o_addL, e_nonil, e_nocons, slNo_no, slNo_va, e_wnil, e_wcons, e_bnil, e_bcons, e_cnil, e_ccons, e_znil, e_zcons, Bool.and_self, Bool.and_true, Bool.true_and, if_true, List.getD_cons_zero, List.getD_cons_succ, Mal_val, rg]
  refine Res.al.mono (compL_dr (P := IsCol) (k := 14) (fun _ => rfl) _ t4 (by simp; omega) fun x hx t ht => ⟨_, rfl, ?_⟩) fun ds s q => ?_
  · simp only [e_seq, e_drop, e_act, e_var, e_cons, e_nil, e_c, bind_ok, bind_bad, bind_ex, al_bind, al_ok, al_ne, al_callR, e_rstown, e_rsown, e_fzcons, e_fznil, e_fzown, fz_non, fz_bl, fz_int, fz_str, fz_tup, fz_lst, fz_scr, fz_town, rs_non, rs_bl, rs_int, rs_str, rs_tup, rs_lst, rs_scr, e_appT, e_appO, e_extO, e_setO, e_setT, List.getElem?_cons_zero, List.getElem?_cons_succ, List.getElem?_nil, e_set, e_own, e_sub, e_asg, e_for, e_par, e_hnil, e_hva, e_how, puts_nil, puts_cons, e_cb, e_rslcons, e_rslnil, Option.bind_some, Option.map_some, lenF, opt_some, opt_none, put_mk, List.set_cons_succ, List.set_cons_zero, List.length_map, List.length_cons, List.length_nil, e_bin, e_call, e_tup, e_lst, e_sl, e_onone, e_osome, e_tru, e_of, e_band, e_bor, e_bnot, e_if, e_and, e_or, e_not, e_neg, e_chain, e_isi, e_next, e_sif, e_ret, e_comp, e_yes, e_iof, e_izip, e_rng1, e_rng2, e_name, e_pnil, e_pcons, e_ptup, o_add, o_sub, o_lt, o_le, o_gt, o_ge, o_eq, o_ne, finQ_ret, finQ_next, tupF, lstF, absF, intF, truD, itemsD, zipD, slD, o_mulL, o_mulR, o_div, o_mod, sz_le, sz_lt, o_addT, o_addL, e_nonil, e_nocons, slNo_no, slNo_va, e_wnil, e_wcons, e_bnil, e_bcons, e_cnil, e_ccons, e_znil, e_zcons, Bool.and_self, Bool.and_true, Bool.true_and, if_true, List.getD_cons_zero, List.getD_cons_succ, Mal_val, wipeS]
    refine (drawn_colour_ok ns t hn (by omega)).mono fun d w ⟨h1, t', h2, h3⟩ => ?_
    subst h2
    exact ⟨fz_pl h1.pl _, h1, t', rfl, h3⟩
  · obtain ⟨q1, q2, t5, q3, q4⟩ := q
    subst q3
    obtain ⟨cs, rfl, hcs⟩ := cols_of q1
    simp only [List.length_map, List.length_range] at q2 q4
    have l1 : 0 < cs.length := by omega
    have l2 : cs.length ≤ 10000 := by omega
    have c1 : cutL (cs.map col) none (some 1) = (cs.take 1).map col := by rw [show (some (1 : Int)) = some ((1 : Nat) : Int) from rfl, cut_hi, List.map_take]
    have l3 : 0 < (cs.take 1).length := by rw [List.length_take]; omega
    have l4 : (cs.take 1).length ≤ 10000 := by rw [List.length_take]; omega
    have hcs1 : ∀ c ∈ cs.take 1, okc c := fun c h => hcs c (List.mem_of_mem_take h)
    simp (config := { maxSteps := 3000000 }) (disch := ((try simp only [List.length_map, List.length_cons, List.length_nil, List.length_append, List.length_replicate, List.length_set]); omega)) only [e_seq, e_drop, e_act, e_var, e_cons, e_nil, e_c, bind_ok, bind_bad, bind_ex, al_bind, al_ok, al_ne, al_callR, e_rstown, e_rsown, e_fzcons, e_fznil, e_fzown, fz_non, fz_bl, fz_int, fz_str, fz_tup, fz_lst, fz_scr, fz_town, rs_non, rs_bl, rs_int, rs_str, rs_tup, rs_lst, rs_scr, e_appT, e_appO, e_extO, e_setO, e_setT, List.getElem?_cons_zero, List.getElem?_cons_succ, List.getElem?_nil, e_set, e_own, e_sub, e_asg, e_for, e_par, e_hnil, e_hva, e_how, puts_nil, puts_cons, e_cb, e_rslcons, e_rslnil, Option.bind_some, Option.map_some, lenF, opt_some, opt_none, put_mk, List.set_cons_succ, List.set_cons_zero, List.length_map, List.length_cons, List.length_nil, e_bin, e_call, e_tup, e_lst, e_sl, e_onone, e_osome, e_tru, e_of, e_band, e_bor, e_bnot, e_if, e_and, e_or, e_not, e_neg, e_chain, e_isi, e_next, e_sif, e_ret, e_comp, e_yes, e_iof, e_izip, e_rng1, e_rng2, e_name, e_pnil, e_pcons, e_ptup, o_add, o_sub, o_lt, o_le, o_gt, o_ge, o_eq, o_ne, finQ_ret, finQ_next, tupF, lstF, absF, intF, truD, itemsD, zipD, slD, o_mulL, o_mulR, o_div, o_mod, sz_le, sz_lt, o_addT, o_addL, e_nonil, e_nocons, slNo_no, slNo_va, e_wnil, e_wcons, e_bnil, e_bcons, e_cnil, e_ccons, e_znil, e_zcons, Bool.and_self, Bool.and_true, Bool.true_and, if_true, List.getD_cons_zero, List.getD_cons_succ, Mal_val, c1, mean_eq hcs1 l3 l4, lmean_eq hcs1 l3 l4, mean_eq hcs l1 l2, lmean_eq hcs l1 l2, sameM, fz_pl (meanD_pl _), Bool.not_true, Bool.false_eq_true, if_false]
    exact ⟨.inl (by first | rfl | trivial), t5, _, _, _, _, _, _, _, _, rfl, by omega⟩
theorem law_true : ∀ ns : List Int, ns.length ≤ 63 → ∃ w', m_law [.scr ns] ⟨none⟩ = some (.val (.bl true) w') := by
  intro ns hn
  have h : Mal (m_law [.scr ns] ⟨none⟩) fun d _ => d = .bl true := by
    unfold m_law
    rw [mal_mF (by rfl)]
    unfold b_law
    simp only [List.map_cons, List.map_nil, List.length_cons, List.length_nil, List.replicate, List.cons_append, List.nil_append]
    simp only [e_seq, e_drop, e_act, e_var, e_cons, e_nil, e_c, bind_ok, bind_bad, bind_ex, al_bind, al_ok, al_ne, al_callR, e_rstown, e_rsown, e_fzcons, e_fznil, e_fzown, fz_non, fz_bl, fz_int, fz_str, fz_tup, fz_lst, fz_scr, fz_town, rs_non, rs_bl, rs_int, rs_str, rs_tup, rs_lst, rs_scr, e_appT, e_appO, e_extO, e_setO, e_setT, List.getElem?_cons_zero, List.getElem?_cons_succ, List.getElem?_nil, e_set, e_own, e_sub, e_asg, e_for, e_par, e_hnil, e_hva, e_how, puts_nil, puts_cons, e_cb, e_rslcons, e_rslnil, Option.bind_some, Option.map_some, lenF, opt_some, opt_none, put_mk, List.set_cons_succ, List.set_cons_zero, List.length_map, List.length_cons, List.length_nil, e_bin, e_call, e_tup, e_lst, e_sl, e_onone, e_osome, e_tru, e_of, e_band, e_bor, e_bnot, e_if, e_and, e_or, e_not, e_neg, e_chain, e_isi, e_next, e_sif, e_ret, e_comp, e_yes, e_iof, e_izip, e_rng1, e_rng2, e_name, e_pnil, e_pcons, e_ptup, o_add, o_sub, o_lt, o_le, o_gt, o_ge, o_eq, o_ne, finQ_ret, finQ_next, tupF, lstF, absF, intF, truD, itemsD, zipD, slD, o_mulL, o_mulR, o_div, o_mod, sz_le, sz_lt, o_addT, o_addL, e_town, show rngL 0 12 1 = some _ from rng_nat 12 (by decide)]
    refine forL_al (fun r s => ∃ t x2 x3 x4 x5 x6 x7 x8 x9, s = ⟨[.va (.scr ns), .va .town, x2, x3, x4, x5, x6, x7, x8, x9, .no, .no, .no, .no], ⟨some t⟩⟩ ∧ t.length + 200 * r.length ≤ 5000) ?_ ?_ _ _ ⟨[], _, _, _, _, _, _, _, _, rfl, by simp⟩
    · rintro x r s ⟨t, x2, x3, x4, x5, x6, x7, x8, x9, rfl, h⟩
      simp only [List.length_cons] at h
      refine ⟨_, rfl, (step_ok ns t hn (by omega) _ _ _ _ _ _ _ _).mono ?_⟩
      rintro fl s2 ⟨h1, t', x2, x3, x4, x5, x6, x7, x8, x9, rfl, h2⟩
      exact ⟨h1, t', _, _, _, _, _, _, _, _, rfl, by omega⟩
    · rintro s ⟨t, x2, x3, x4, x5, x6, x7, x8, x9, rfl, h⟩
      simp only [e_seq, e_drop, e_act, e_var, e_cons, e_nil, e_c, bind_ok, bind_bad, bind_ex, al_bind, al_ok, al_ne, al_callR, e_rstown, e_rsown, e_fzcons, e_fznil, e_fzown, fz_non, fz_bl, fz_int, fz_str, fz_tup, fz_lst, fz_scr, fz_town, rs_non, rs_bl, rs_int, rs_str, rs_tup, rs_lst, rs_scr, e_appT, e_appO, e_extO, e_setO, e_setT, List.getElem?_cons_zero, List.getElem?_cons_succ, List.getElem?_nil, e_set, e_own, e_sub, e_asg, e_for, e_par, e_hnil, e_hva, e_how, puts_nil, puts_cons, e_cb, e_rslcons, e_rslnil, Option.bind_some, Option.map_some, lenF, opt_some, opt_none, put_mk, List.set_cons_succ, List.set_cons_zero, List.length_map, List.length_cons, List.length_nil, e_bin, e_call, e_tup, e_lst, e_sl, e_onone, e_osome, e_tru, e_of, e_band, e_bor, e_bnot, e_if, e_and, e_or, e_not, e_neg, e_chain, e_isi, e_next, e_sif, e_ret, e_comp, e_yes, e_iof, e_izip, e_rng1, e_rng2, e_name, e_pnil, e_pcons, e_ptup, o_add, o_sub, o_lt, o_le, o_gt, o_ge, o_eq, o_ne, finQ_ret, finQ_next, tupF, lstF, absF, intF, truD, itemsD, zipD, slD, o_mulL, o_mulR, o_div, o_mod, sz_le, sz_lt, o_addT, o_addL]
  obtain ⟨d, w, h1, rfl⟩ := h.get
  exact ⟨w, h1⟩
end Lw
namespace Lw
open PySem PySem.Spec PyProof.Rows L2 Pm

theorem hd_mk {K : PySem.W.Frag} {h : Heap} {mg : Str → Option Value} (X : K.In h) (G : h.Ns mainGlobals mg) {f0 : Addr} {od0 an0 : Option Addr} {sl0 : Array (Option Value)} {oc0 kV0 dc0 pm0 cd0 ct0 : Value} {f1 : Addr} {od1 an1 : Option Addr} {sl1 : Array (Option Value)} {oc1 kV1 dc1 pm1 cd1 ct1 : Value} {f2 : Addr} {od2 an2 : Option Addr} {sl2 : Array (Option Value)} {oc2 kV2 dc2 pm2 cd2 ct2 : Value} {f3 : Addr} {od3 an3 : Option Addr} {sl3 : Array (Option Value)} {oc3 kV3 dc3 pm3 cd3 ct3 : Value} {f4 : Addr} {od4 an4 : Option Addr} {sl4 : Array (Option Value)} {oc4 kV4 dc4 pm4 cd4 ct4 : Value} {f5 : Addr} {od5 an5 : Option Addr} {sl5 : Array (Option Value)} {oc5 kV5 dc5 pm5 cd5 ct5 : Value} {f6 : Addr} {od6 an6 : Option Addr} {sl6 : Array (Option Value)} {oc6 kV6 dc6 pm6 cd6 ct6 : Value} {f7 : Addr} {od7 an7 : Option Addr} {sl7 : Array (Option Value)} {oc7 kV7 dc7 pm7 cd7 ct7 : Value} {f8 : Addr} {od8 an8 : Option Addr} {sl8 : Array (Option Value)} {oc8 kV8 dc8 pm8 cd8 ct8 : Value} {f9 : Addr} {od9 an9 : Option Addr} {sl9 : Array (Option Value)} {oc9 kV9 dc9 pm9 cd9 ct9 : Value} {f10 : Addr} {od10 an10 : Option Addr} {sl10 : Array (Option Value)} {oc10 kV10 dc10 pm10 cd10 ct10 : Value} {f11 : Addr} {od11 an11 : Option Addr} {sl11 : Array (Option Value)} {oc11 kV11 dc11 pm11 cd11 ct11 : Value} {f12 : Addr} {od12 an12 : Option Addr} {sl12 : Array (Option Value)} {oc12 kV12 dc12 pm12 cd12 ct12 : Value} {cf0 cn0 : Nat} {co0 : Option Addr} {cs0 : Array (Option Value)} {ct0_0 ct0_1 ct0_2 ct0_3 : Tok}
    (a0 : PySem.W.nsIn K mainGlobals "_law_draw" = some (some (.ref f0))) (l0 : K.lookup f0 = some ⟨oc0, od0, .func (PySem.W.fnOf "_law_draw" "_law_draw" (defArgs (topS 10)) (defBody (topS 10)) (defScope (topS 10)) .none kV0 dc0 pm0 an0 cd0 ct0), sl0⟩) (c0 : PySem.W.codeIn K cd0 "_law_draw" = true) (k0 : PySem.W.keepIn K (.ref f0) = true)
    (a1 : PySem.W.nsIn K mainGlobals "_law_pick" = some (some (.ref f1))) (l1 : K.lookup f1 = some ⟨oc1, od1, .func (PySem.W.fnOf "_law_pick" "_law_pick" (defArgs (topS 11)) (defBody (topS 11)) (defScope (topS 11)) .none kV1 dc1 pm1 an1 cd1 ct1), sl1⟩) (c1 : PySem.W.codeIn K cd1 "_law_pick" = true) (k1 : PySem.W.keepIn K (.ref f1) = true)
    (a2 : PySem.W.nsIn K mainGlobals "_law_drawn_colour" = some (some (.ref f2))) (l2 : K.lookup f2 = some ⟨oc2, od2, .func (PySem.W.fnOf "_law_drawn_colour" "_law_drawn_colour" (defArgs (topS 13)) (defBody (topS 13)) (defScope (topS 13)) .none kV2 dc2 pm2 an2 cd2 ct2), sl2⟩) (c2 : PySem.W.codeIn K cd2 "_law_drawn_colour" = true) (k2 : PySem.W.keepIn K (.ref f2) = true)
    (a3 : PySem.W.nsIn K mainGlobals "_law_round" = some (some (.ref f3))) (l3 : K.lookup f3 = some ⟨oc3, od3, .func (PySem.W.fnOf "_law_round" "_law_round" (defArgs (topS 12)) (defBody (topS 12)) (defScope (topS 12)) .none kV3 dc3 pm3 an3 cd3 ct3), sl3⟩) (c3 : PySem.W.codeIn K cd3 "_law_round" = true) (k3 : PySem.W.keepIn K (.ref f3) = true)
    (a4 : PySem.W.nsIn K mainGlobals "_law_same" = some (some (.ref f4))) (l4 : K.lookup f4 = some ⟨oc4, od4, .func (PySem.W.fnOf "_law_same" "_law_same" (defArgs (topS 9)) (defBody (topS 9)) (defScope (topS 9)) .none kV4 dc4 pm4 an4 cd4 ct4), sl4⟩) (c4 : PySem.W.codeIn K cd4 "_law_same" = true) (k4 : PySem.W.keepIn K (.ref f4) = true)
    (a5 : PySem.W.nsIn K mainGlobals "rounded" = some (some (.ref f5))) (l5 : K.lookup f5 = some ⟨oc5, od5, .func (PySem.W.fnOf "rounded" "rounded" (defArgs (topS 2)) (defBody (topS 2)) (defScope (topS 2)) .none kV5 dc5 pm5 an5 cd5 ct5), sl5⟩) (c5 : PySem.W.codeIn K cd5 "rounded" = true) (k5 : PySem.W.keepIn K (.ref f5) = true)
    (a6 : PySem.W.nsIn K mainGlobals "shared" = some (some (.ref f6))) (l6 : K.lookup f6 = some ⟨oc6, od6, .func (PySem.W.fnOf "shared" "shared" (defArgs (topS 3)) (defBody (topS 3)) (defScope (topS 3)) .none kV6 dc6 pm6 an6 cd6 ct6), sl6⟩) (c6 : PySem.W.codeIn K cd6 "shared" = true) (k6 : PySem.W.keepIn K (.ref f6) = true)
    (a7 : PySem.W.nsIn K mainGlobals "grey" = some (some (.ref f7))) (l7 : K.lookup f7 = some ⟨oc7, od7, .func (PySem.W.fnOf "grey" "grey" (defArgs (topS 4)) (defBody (topS 4)) (defScope (topS 4)) .none kV7 dc7 pm7 an7 cd7 ct7), sl7⟩) (c7 : PySem.W.codeIn K cd7 "grey" = true) (k7 : PySem.W.keepIn K (.ref f7) = true)
    (a8 : PySem.W.nsIn K mainGlobals "distance" = some (some (.ref f8))) (l8 : K.lookup f8 = some ⟨oc8, od8, .func (PySem.W.fnOf "distance" "distance" (defArgs (topS 5)) (defBody (topS 5)) (defScope (topS 5)) .none kV8 dc8 pm8 an8 cd8 ct8), sl8⟩) (c8 : PySem.W.codeIn K cd8 "distance" = true) (k8 : PySem.W.keepIn K (.ref f8) = true)
    (a9 : PySem.W.nsIn K mainGlobals "faded" = some (some (.ref f9))) (l9 : K.lookup f9 = some ⟨oc9, od9, .func (PySem.W.fnOf "faded" "faded" (defArgs (topS 6)) (defBody (topS 6)) (defScope (topS 6)) .none kV9 dc9 pm9 an9 cd9 ct9), sl9⟩) (c9 : PySem.W.codeIn K cd9 "faded" = true) (k9 : PySem.W.keepIn K (.ref f9) = true)
    (a10 : PySem.W.nsIn K mainGlobals "_law_mean" = some (some (.ref f10))) (l10 : K.lookup f10 = some ⟨oc10, od10, .func (PySem.W.fnOf "_law_mean" "_law_mean" (defArgs (topS 14)) (defBody (topS 14)) (defScope (topS 14)) .none kV10 dc10 pm10 an10 cd10 ct10), sl10⟩) (c10 : PySem.W.codeIn K cd10 "_law_mean" = true) (k10 : PySem.W.keepIn K (.ref f10) = true)
    (a11 : PySem.W.nsIn K mainGlobals "mean_colour" = some (some (.ref f11))) (l11 : K.lookup f11 = some ⟨oc11, od11, .func (PySem.W.fnOf "mean_colour" "mean_colour" (defArgs (topS 7)) (defBody (topS 7)) (defScope (topS 7)) .none kV11 dc11 pm11 an11 cd11 ct11), sl11⟩) (c11 : PySem.W.codeIn K cd11 "mean_colour" = true) (k11 : PySem.W.keepIn K (.ref f11) = true)
    (a12 : PySem.W.nsIn K mainGlobals "law" = some (some (.ref f12))) (l12 : K.lookup f12 = some ⟨oc12, od12, .func (PySem.W.fnOf "law" "law" (defArgs (topS 15)) (defBody (topS 15)) (defScope (topS 15)) .none kV12 dc12 pm12 an12 cd12 ct12), sl12⟩) (c12 : PySem.W.codeIn K cd12 "law" = true) (k12 : PySem.W.keepIn K (.ref f12) = true)
    (ca0 : PySem.W.nsIn K mainGlobals "CLEAR" = some (some (.ref cf0))) (cl0 : K.lookup cf0 = some ⟨.type "tuple", co0, .seq (#[.int 0 ct0_0, .int 0 ct0_1, .int 0 ct0_2, .int 0 ct0_3] : Array Value) cn0, cs0⟩)
    (z0 : PySem.W.nsIn K mainGlobals "abs" = some none)
    (z1 : PySem.W.nsIn K mainGlobals "all" = some none)
    (z2 : PySem.W.nsIn K mainGlobals "bool" = some none)
    (z3 : PySem.W.nsIn K mainGlobals "int" = some none)
    (z4 : PySem.W.nsIn K mainGlobals "isinstance" = some none)
    (z5 : PySem.W.nsIn K mainGlobals "len" = some none)
    (z6 : PySem.W.nsIn K mainGlobals "list" = some none)
    (z7 : PySem.W.nsIn K mainGlobals "max" = some none)
    (z8 : PySem.W.nsIn K mainGlobals "range" = some none)
    (z9 : PySem.W.nsIn K mainGlobals "str" = some none)
    (z10 : PySem.W.nsIn K mainGlobals "sum" = some none)
    (z11 : PySem.W.nsIn K mainGlobals "tuple" = some none)
    (z12 : PySem.W.nsIn K mainGlobals "zip" = some none)
    : Hd K mg := ⟨df_mk (st := (topS 10)) X G a0 l0 c0 k0 fun _ _ _ _ _ _ us hl => match us, hl with | [_, _, _], _ => rfl,
    df_mk (st := (topS 11)) X G a1 l1 c1 k1 fun _ _ _ _ _ _ us hl => match us, hl with | [_, _, _], _ => rfl,
    df_mk (st := (topS 13)) X G a2 l2 c2 k2 fun _ _ _ _ _ _ us hl => match us, hl with | [_, _], _ => rfl,
    df_mk (st := (topS 12)) X G a3 l3 c3 k3 fun _ _ _ _ _ _ us hl => match us, hl with | [_, _], _ => rfl,
    df_mk (st := (topS 9)) X G a4 l4 c4 k4 fun _ _ _ _ _ _ us hl => match us, hl with | [_, _], _ => rfl,
    df_mk (st := (topS 2)) X G a5 l5 c5 k5 fun _ _ _ _ _ _ us hl => match us, hl with | [_, _], _ => rfl,
    df_mk (st := (topS 3)) X G a6 l6 c6 k6 fun _ _ _ _ _ _ us hl => match us, hl with | [_, _, _], _ => rfl,
    df_mk (st := (topS 4)) X G a7 l7 c7 k7 fun _ _ _ _ _ _ us hl => match us, hl with | [_], _ => rfl,
    df_mk (st := (topS 5)) X G a8 l8 c8 k8 fun _ _ _ _ _ _ us hl => match us, hl with | [_, _], _ => rfl,
    df_mk (st := (topS 6)) X G a9 l9 c9 k9 fun _ _ _ _ _ _ us hl => match us, hl with | [_, _], _ => rfl,
    df_mk (st := (topS 14)) X G a10 l10 c10 k10 fun _ _ _ _ _ _ us hl => match us, hl with | [_], _ => rfl,
    df_mk (st := (topS 7)) X G a11 l11 c11 k11 fun _ _ _ _ _ _ us hl => match us, hl with | [_], _ => rfl,
    df_mk (st := (topS 15)) X G a12 l12 c12 k12 fun _ _ _ _ _ _ us hl => match us, hl with | [_], _ => rfl,
    cg_tup (us := [.int 0 ct0_0, .int 0 ct0_1, .int 0 ct0_2, .int 0 ct0_3]) X G ca0 cl0 (by simp) (.int (.int (.int (.int .nil)))),
    PySem.W.mg_none_of X G z0,
    PySem.W.mg_none_of X G z1,
    PySem.W.mg_none_of X G z2,
    PySem.W.mg_none_of X G z3,
    PySem.W.mg_none_of X G z4,
    PySem.W.mg_none_of X G z5,
    PySem.W.mg_none_of X G z6,
    PySem.W.mg_none_of X G z7,
    PySem.W.mg_none_of X G z8,
    PySem.W.mg_none_of X G z9,
    PySem.W.mg_none_of X G z10,
    PySem.W.mg_none_of X G z11,
    PySem.W.mg_none_of X G z12⟩
end Lw
open PySem PySem.W PyProof.Rows
set_option maxHeartbeats 0 in
theorem PySem.Challenge.cw_paintyard_k02_colours_by_hand_holds : PySem.Challenge.rw_paintyard_k02_colours_by_hand.Holds := by
  w_on; o_law; k_head; (case hw => w_witness2)
  k_fill
  refine L2.walk_of (l := PySem.Challenge.rw_paintyard_k02_colours_by_hand) (n := 63) (k := 9) (x := "_law_script") (CX := fun w => L2.CX PySem.Challenge.pw_paintyard_k02_colours_by_hand w) (sp := fun w => Pm.spLaw _) rfl (by decide) rfl ⟨rfl, by decide, by decide⟩ (fun w h Y => PySem.W.kIn_of Y) ?F (fun _ _ a ns hl _ hS => ⟨a, ns, rfl, hS, hl, fun _ => rfl⟩) (fun _ _ _ _ _ ⟨_, _, _, _, _, _, _, _, _, _, _, _, z⟩ => z)
  case F =>
    intro w mg fa h KX G hmg
    refine' Lw.all_ok (Lw.hd_mk KX G ?a0 ?l0 ?c0 ?k0 ?a1 ?l1 ?c1 ?k1 ?a2 ?l2 ?c2 ?k2 ?a3 ?l3 ?c3 ?k3 ?a4 ?l4 ?c4 ?k4 ?a5 ?l5 ?c5 ?k5 ?a6 ?l6 ?c6 ?k6 ?a7 ?l7 ?c7 ?k7 ?a8 ?l8 ?c8 ?k8 ?a9 ?l9 ?c9 ?k9 ?a10 ?l10 ?c10 ?k10 ?a11 ?l11 ?c11 ?k11 ?a12 ?l12 ?c12 ?k12 ?ca0 ?cl0 ?z0 ?z1 ?z2 ?z3 ?z4 ?z5 ?z6 ?z7 ?z8 ?z9 ?z10 ?z11 ?z12) hmg Lw.law_true
    (case a0 => k_is); (case l0 => k_is); (case c0 => k_is); (case k0 => k_is); (case a1 => k_is); (case l1 => k_is); (case c1 => k_is); (case k1 => k_is); (case a2 => k_is); (case l2 => k_is); (case c2 => k_is); (case k2 => k_is); (case a3 => k_is); (case l3 => k_is); (case c3 => k_is); (case k3 => k_is); (case a4 => k_is); (case l4 => k_is); (case c4 => k_is); (case k4 => k_is); (case a5 => k_is); (case l5 => k_is); (case c5 => k_is); (case k5 => k_is); (case a6 => k_is); (case l6 => k_is); (case c6 => k_is); (case k6 => k_is); (case a7 => k_is); (case l7 => k_is); (case c7 => k_is); (case k7 => k_is); (case a8 => k_is); (case l8 => k_is); (case c8 => k_is); (case k8 => k_is); (case a9 => k_is); (case l9 => k_is); (case c9 => k_is); (case k9 => k_is); (case a10 => k_is); (case l10 => k_is); (case c10 => k_is); (case k10 => k_is); (case a11 => k_is); (case l11 => k_is); (case c11 => k_is); (case k11 => k_is); (case a12 => k_is); (case l12 => k_is); (case c12 => k_is); (case k12 => k_is); (case ca0 => k_is); (case cl0 => k_is); (case z0 => k_is); (case z1 => k_is); (case z2 => k_is); (case z3 => k_is); (case z4 => k_is); (case z5 => k_is); (case z6 => k_is); (case z7 => k_is); (case z8 => k_is); (case z9 => k_is); (case z10 => k_is); (case z11 => k_is); (case z12 => k_is)

