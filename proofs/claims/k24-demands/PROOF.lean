import PyProof.Rows.All
import Wide.All
import OpenK.AllK
import Wide.FinOn
import HandS.ForMost
import HandS.ForExc
import HandS.Lambda
import HandS.ExcValue
import HandS.ExcIs
import HandS.HeadHook4
import HandS.TupAny
import HandS.IsInst
import HandS.Small
import KE.GoesEnum
import PyProof.EnumMake
import HandS.Style
import PyProof.StrOps2
import KE.KRevSl
import HandS.StrMore
import HandS.Text
import HandS.HeadWalk
import HandS.Codes
import KE.KExcSuper
import KE.KSuper
import HandS.ExcInit
import HandS.ExcBuiltin
import HandS.ExcSuper
import HandS.Ends
import KE.KExcIs
import HandS.ExcField
import HandS.Iter
import HandS.Dict
import HandS.Deep
import HandS.TupMul
import HandS.Zip
import PyProof.NeKinds
import KE.DataFind
import KE.GoesMore
import KE.KStateDown
import HandS.More
import HandS.Words
import HandS.WordsExc
import HandS.Defaults
import HandS.Head0
import HandS.Head1
import HandS.Head2
import HandS.HeadEnd
import HandS.HeadHook1
import HandS.HeadHook2
import HandS.HeadHook3
import PySem.Challenge.RW_sureleaves_k24_demands
set_option Elab.async false
set_option linter.all false
set_option maxRecDepth 100000
set_option maxHeartbeats 0
namespace DL
open PySem PySem.Spec PyProof.Rows L2

/-! ### data -/
inductive D where
  | non
  | bl (b : Bool)
  | int (i : Int)
  | str (x : Str)
  | tup (xs : List D)
  | lst (xs : List D)
  | scr (ns : List Int)
  | st
  | exc (c : Str) (fs : List (Str × D))
  | ty (n : String)
  | glo (x : Str)
  | map (ks : List Str) (ds : List D)
/-- the state of the draws -/
structure Om where
  great : List Int
  cells : List Int
  left : Int
  turn : Int
  /-- what a list holds that callees fill (DL39) -/
  acc : List D

/-- an exception that is held as a value: its class, its own dict -/
def ExV (cls : Value) (d : Option Addr) (a : Addr) : HO := .ext fun h => ∃ (oe : Obj) (vs : Array Value), h.get? a = some oe ∧ Zc cls d oe ∧ oe.data = .fields vs

/-- a list that nothing changes -/
def SqF (K : PySem.W.Frag) (H : Hp) (a : Addr) (xs : List V) : Prop := (∃ o, H a = some (.frz o (.lst xs))) ∨
  ∃ (o : Obj) (its : Array Value) (n : Nat), K.lookup a = some o ∧ o.cls = .type "list" ∧ o.dict = none ∧ o.data = .seq its n ∧ its.size ≤ sizeLine ∧ Vals xs its.toList
theorem SqF.sq {K : PySem.W.Frag} {H : Hp} {a : Addr} {xs : List V} (h : SqF K H a xs) : SqL K H a xs := by
  rcases h with ⟨o, h⟩ | h
  · exact .inl (.inr ⟨o, h⟩)
  · exact .inr h
/-- a dict of text keys -/
def dks (ks : List Str) (xs : List V) : List (Key × V) := (ks.zip xs).map fun p => (Sum.inr p.1, p.2)
mutual
/-- V is the datum D in the heap H; N: addresses that are not for data -/
inductive Rep (K : PySem.W.Frag) (sa : Addr) (N : Addr → Prop) (H : Hp) : V → D → Prop
  | non : Rep K sa N H .non .non
  | bl (b : Bool) : Rep K sa N H (.bl b) (.bl b)
  | int (i : Int) : Rep K sa N H (.int i) (.int i)
  | str (x : Str) : Rep K sa N H (.str x) (.str x)
  | tup {a : Addr} {xs : List V} {ds : List D} : SqT K H a xs → xs.length ≤ sizeLine → Reps K sa N H xs ds → Rep K sa N H (.ref a) (.tup ds)
  | lst {a : Addr} {xs : List V} {ds : List D} : H a = some (.lst xs) → ¬ N a → xs.length ≤ sizeLine → Reps K sa N H xs ds → Rep K sa N H (.ref a) (.lst ds)
  | scr {a : Addr} {ns : List Int} : SqF K H a (ns.map V.int) → ns.length ≤ sizeLine → Rep K sa N H (.ref a) (.scr ns)
  | scrL {a : Addr} {ns : List Int} : H a = some (.lst (ns.map V.int)) → ¬ N a → ns.length ≤ sizeLine → Rep K sa N H (.ref a) (.scr ns)
  | st : Rep K sa N H (.ref sa) .st
  | ty (n : String) : Rep K sa N H (.ty n) (.ty n)
  | glo (x : Str) : Rep K sa N H (.ref (He.ga K x)) (.glo x)
  | map {a : Addr} {ks : List Str} {xs : List V} {ds : List D} : H a = some (.dK (dks ks xs)) → ¬ N a → ks.length = xs.length → xs.length ≤ sizeLine → Reps K sa N H xs ds → Rep K sa N H (.ref a) (.map ks ds)
  | exc0 {a : Addr} {c : Str} : H a = some (ExV (.ref (He.ga K c)) none a) → Rep K sa N H (.ref a) (.exc c [])
  | exc1 {a dd : Addr} {c f : Str} {v : V} {x : D} : H a = some (ExV (.ref (He.ga K c)) (some dd) a) → H dd = some (.xd [(f, v)]) → Rep K sa N H v x → Rep K sa N H (.ref a) (.exc c [(f, x)])
inductive Reps (K : PySem.W.Frag) (sa : Addr) (N : Addr → Prop) (H : Hp) : List V → List D → Prop
  | nil : Reps K sa N H [] []
  | cons {v : V} {vs : List V} {d : D} {ds : List D} : Rep K sa N H v d → Reps K sa N H vs ds → Reps K sa N H (v :: vs) (d :: ds)
end

/-- what stays when only the objects of Z change -/
def keepO (Z : Addr → Prop) (b : Addr) : HO → Prop
  | .lst _ => ¬ Z b
  | .dK _ => ¬ Z b
  | .dT _ => ¬ Z b
  | .set _ _ => ¬ Z b
  | .ins _ _ _ => ¬ Z b
  | .tbl _ => False
  | _ => True
/-- no table of code objects -/
def NT : HO → Prop
  | .tbl _ => False
  | _ => True
theorem NT.of_keep {Z : Addr → Prop} {b : Addr} : ∀ {o : HO}, keepO Z b o → NT o
  | .lst _, _ => trivial
  | .dK _, _ => trivial
  | .dT _, _ => trivial
  | .set _ _, _ => trivial
  | .ins _ _ _, _ => trivial
  | .tbl _, k => k
  | .tup _, _ => trivial
  | .own _, _ => trivial
  | .xd _, _ => trivial
  | .met _ _, _ => trivial
  | .rng _ _, _ => trivial
  | .frz _ _, _ => trivial
  | .ext _, _ => trivial
/-- tracked, and no table -/
def Tr (H : Hp) (b : Addr) : Prop := ∃ o, H b = some o ∧ NT o
theorem Tr.not {H : Hp} {b : Addr} (h : H b = none) : ¬ Tr H b := fun ⟨o, e, _⟩ => by rw [h] at e; cases e
structure Fr (Z : Addr → Prop) (H H' : Hp) : Prop where
  keep : ∀ b o, H b = some o → keepO Z b o → H' b = some o
  there : ∀ b, Tr H b → Tr H' b
theorem Fr.refl {Z : Addr → Prop} (H : Hp) : Fr Z H H := ⟨fun _ _ h _ => h, fun _ h => h⟩
theorem Fr.trans {Z : Addr → Prop} {H H1 H2 : Hp} (a : Fr Z H H1) (b : Fr Z H1 H2) : Fr Z H H2 :=
  ⟨fun c o h k => b.keep c o (a.keep c o h k) k, fun c h => b.there c (a.there c h)⟩
theorem Fr.same {Z : Addr → Prop} {H H' : Hp} (s : Same H H') : Fr Z H H' := ⟨fun b o h _ => s b o h, fun b ⟨o, h, n⟩ => ⟨o, s b o h, n⟩⟩
theorem same_upd {H : Hp} {p : Addr} {o : HO} (h : H p = none) : Same H (upd H p o) := fun b x e => by
  rw [upd_ne (ne_of_none e h)]
  exact e
section
variable {K : PySem.W.Frag} {sa : Addr} {N N' Z : Addr → Prop} {H H' : Hp}
theorem Fr.sqT {a : Addr} {xs : List V} (f : Fr Z H H') (h : SqT K H a xs) : SqT K H' a xs := by
  rcases h with (h | ⟨o, h⟩) | h
  · exact .inl (.inl (f.keep _ _ h trivial))
  · exact .inl (.inr ⟨o, f.keep _ _ h trivial⟩)
  · exact .inr h
theorem Fr.sqF {a : Addr} {xs : List V} (f : Fr Z H H') (h : SqF K H a xs) : SqF K H' a xs := by
  rcases h with ⟨o, h⟩ | h
  · exact .inl ⟨o, f.keep _ _ h trivial⟩
  · exact .inr h
mutual
theorem Rep.mono (f : Fr Z H H') (hz : ∀ b, Z b → N b) : ∀ {v : V} {d : D}, Rep K sa N H v d → Rep K sa N H' v d
  | _, _, .non => .non
  | _, _, .bl b => .bl b
  | _, _, .int i => .int i
  | _, _, .str x => .str x
  | _, _, .tup h l r => .tup (f.sqT h) l (Reps.mono f hz r)
  | _, _, .lst h n l r => .lst (f.keep _ _ h fun z => n (hz _ z)) n l (Reps.mono f hz r)
  | _, _, .scr h l => .scr (f.sqF h) l
  | _, _, .scrL h n l => .scrL (f.keep _ _ h fun z => n (hz _ z)) n l
  | _, _, .st => .st
  | _, _, .ty n => .ty n
  | _, _, .glo x => .glo x
  | _, _, .map h n e l r => .map (f.keep _ _ h fun z => n (hz _ z)) n e l (Reps.mono f hz r)
  | _, _, .exc0 h => .exc0 (f.keep _ _ h trivial)
  | _, _, .exc1 h h2 r => .exc1 (f.keep _ _ h trivial) (f.keep _ _ h2 trivial) (Rep.mono f hz r)
theorem Reps.mono (f : Fr Z H H') (hz : ∀ b, Z b → N b) : ∀ {vs : List V} {ds : List D}, Reps K sa N H vs ds → Reps K sa N H' vs ds
  | _, _, .nil => .nil
  | _, _, .cons r rs => .cons (Rep.mono f hz r) (Reps.mono f hz rs)
end
mutual
/-- other addresses are shut -/
theorem Rep.less (hn : ∀ b, N' b → Tr H b → N b) : ∀ {v : V} {d : D}, Rep K sa N H v d → Rep K sa N' H v d
  | _, _, .non => .non
  | _, _, .bl b => .bl b
  | _, _, .int i => .int i
  | _, _, .str x => .str x
  | _, _, .tup h l r => .tup h l (Reps.less hn r)
  | _, _, .lst h n l r => .lst h (fun z => n (hn _ z ⟨_, h, trivial⟩)) l (Reps.less hn r)
  | _, _, .scr h l => .scr h l
  | _, _, .scrL h n l => .scrL h (fun z => n (hn _ z ⟨_, h, trivial⟩)) l
  | _, _, .st => .st
  | _, _, .ty n => .ty n
  | _, _, .glo x => .glo x
  | _, _, .map h n e l r => .map h (fun z => n (hn _ z ⟨_, h, trivial⟩)) e l (Reps.less hn r)
  | _, _, .exc0 h => .exc0 h
  | _, _, .exc1 h h2 r => .exc1 h h2 (Rep.less hn r)
theorem Reps.less (hn : ∀ b, N' b → Tr H b → N b) : ∀ {vs : List V} {ds : List D}, Reps K sa N H vs ds → Reps K sa N' H vs ds
  | _, _, .nil => .nil
  | _, _, .cons r rs => .cons (Rep.less hn r) (Reps.less hn rs)
end
theorem Reps.len : ∀ {vs : List V} {ds : List D}, Reps K sa N H vs ds → vs.length = ds.length
  | _, _, .nil => rfl
  | _, _, .cons _ rs => congrArg (· + 1) (Reps.len rs)
theorem Reps.get : ∀ {vs : List V} {ds : List D} {i : Nat} {v : V}, Reps K sa N H vs ds → vs[i]? = some v → ∃ d, ds[i]? = some d ∧ Rep K sa N H v d
  | _, _, _, _, .nil, e => by simp at e
  | _, _, 0, _, .cons r _, e => by simp at e; subst e; exact ⟨_, rfl, r⟩
  | _, _, i + 1, v, .cons _ t, e => by
    obtain ⟨u, h1, h2⟩ := Reps.get (i := i) (v := v) t (by simpa using e)
    exact ⟨u, by simpa using h1, h2⟩
theorem Reps.getD : ∀ {vs : List V} {ds : List D} {i : Nat} {d : D}, Reps K sa N H vs ds → ds[i]? = some d → ∃ v, vs[i]? = some v ∧ Rep K sa N H v d
  | _, _, _, _, .nil, e => by simp at e
  | _, _, 0, _, .cons r _, e => by simp at e; subst e; exact ⟨_, rfl, r⟩
  | _, _, i + 1, v, .cons _ t, e => by
    obtain ⟨u, h1, h2⟩ := Reps.getD (i := i) (d := v) t (by simpa using e)
    exact ⟨u, by simpa using h1, h2⟩
theorem Reps.app : ∀ {vs ws : List V} {ds es : List D}, Reps K sa N H vs ds → Reps K sa N H ws es → Reps K sa N H (vs ++ ws) (ds ++ es)
  | _, _, _, _, .nil, s => s
  | _, _, _, _, .cons r t, s => .cons r (Reps.app t s)
theorem Reps.take : ∀ {vs : List V} {ds : List D} (n : Nat), Reps K sa N H vs ds → Reps K sa N H (vs.take n) (ds.take n)
  | _, _, 0, _ => .nil
  | _, _, _ + 1, .nil => .nil
  | _, _, n + 1, .cons r t => .cons r (Reps.take n t)
theorem Reps.drop : ∀ {vs : List V} {ds : List D} (n : Nat), Reps K sa N H vs ds → Reps K sa N H (vs.drop n) (ds.drop n)
  | _, _, 0, r => r
  | _, _, _ + 1, .nil => .nil
  | _, _, n + 1, .cons _ t => Reps.drop n t
end

/-! ### results -/
abbrev Ex := Str × List (Str × D)
inductive Rs (α : Type) where
  | ok (a : α) (ω : Om)
  | err (x : Ex) (ω : Om)
  | bad
def Rs.bind {α β : Type} (r : Rs α) (k : α → Om → Rs β) : Rs β := match r with
  | .ok a ω => k a ω
  | .err x ω => .err x ω
  | .bad => .bad
theorem Rs.bind_ok {α β : Type} (a : α) (ω : Om) (k : α → Om → Rs β) : Rs.bind (.ok a ω) k = k a ω := rfl
theorem Rs.bind_err {α β : Type} (x : Ex) (ω : Om) (k : α → Om → Rs β) : Rs.bind (.err x ω) k = .err x ω := rfl
theorem Rs.bind_bad {α β : Type} (k : α → Om → Rs β) : Rs.bind .bad k = .bad := rfl
/-- a slot: empty (or forgotten), a datum, a list of the def's own -/
inductive Sl where
  | emp
  | val (d : D)
  | own (ds : List D)
abbrev Sls := List Sl
abbrev EvE := Sls → Om → Rs D
abbrev EvA := Sls → Om → Rs (List D)
abbrev EvT := Sls → Om → Rs Bool
inductive Fl where
  | nx (δ : Sls)
  | rt (d : D)
  | bk (δ : Sls)
  | ct (δ : Sls)
abbrev EvS := Sls → Om → Rs Fl

/-! ### states -/
/-- what is told of the source of draws (and of tables of code objects) is told still when what else may change changes -/
def GM (Z : Addr → Prop) (G : Om → Hp → Prop) : Prop := ∀ ω H H', (∀ b o, H b = some o → (Z b ∨ keepO (fun _ => True) b o ∨ ∃ ps, o = .tbl ps) → H' b = some o) → G ω H → G ω H'
def NA (N : Addr → Prop) (al : Nat → Option Addr) : Addr → Prop := fun b => N b ∨ ∃ i, al i = some b
inductive SlotR (K : PySem.W.Frag) (sa : Addr) (N : Addr → Prop) (H : Hp) : Option Addr → Option V → Sl → Prop
  | emp {o : Option V} : SlotR K sa N H none o .emp
  | val {v : V} {d : D} : Rep K sa N H v d → SlotR K sa N H none (some v) (.val d)
  | own {a : Addr} {xs : List V} {ds : List D} : H a = some (.lst xs) → xs.length ≤ sizeLine → Reps K sa N H xs ds → SlotR K sa N H (some a) (some (.ref a)) (.own ds)
structure Fm where
  sa : Addr
  Z : Addr → Prop
  N : Addr → Prop
  G : Om → Hp → Prop
  H0 : Hp
/-- what the places of the draws and of the tables are to be like -/
abbrev PP : Type := Addr → (Addr → Prop) → (Om → Hp → Prop) → Prop
structure Wt where
  w : XK
  P : PP
structure DSt (K : PySem.W.Frag) (P : PP) (M : Fm) (al : Nat → Option Addr) (σ : L2.St) (H : Hp) (δ : Sls) (ω : Om) : Prop where
  pp : P M.sa M.Z M.G
  zn : ∀ b, M.Z b → M.N b
  gm : GM M.Z M.G
  g : M.G ω H
  nt : ∀ b, M.N b → Tr H b
  fr : Fr M.Z M.H0 H
  len : σ.length = δ.length
  sl : ∀ i, i < δ.length → SlotR K M.sa (NA M.N al) H (al i) ((σ[i]?).getD none) ((δ[i]?).getD .emp)
  inj : ∀ i j a, al i = some a → al j = some a → i = j
  fresh : ∀ i a, al i = some a → ¬ Tr M.H0 a ∧ ¬ M.N a ∧ i < δ.length
section
variable {K : PySem.W.Frag} {P : PP} {M : Fm} {H H' : Hp} {al : Nat → Option Addr} {σ : L2.St} {δ : Sls} {ω ω' : Om}
theorem SlotR.mono {sa : Addr} {Z N' : Addr → Prop} {o : Option Addr} {v : Option V} {x : Sl} (f : Fr Z H H') (ho : ∀ a, o = some a → ¬ Z a) (hn : ∀ b, Z b → N' b) (r : SlotR K sa N' H o v x) : SlotR K sa N' H' o v x := by
  cases r with
  | emp => exact .emp
  | val r => exact .val (r.mono f hn)
  | own h l r => exact .own (f.keep _ _ h (ho _ rfl)) l (r.mono f hn)
theorem DSt.own_there (S : DSt K P M al σ H δ ω) {i : Nat} {a : Addr} (h : al i = some a) : ∃ xs, H a = some (.lst xs) := by
  have hl := (S.fresh i a h).2.2
  have q := S.sl i hl
  rw [h] at q
  generalize (σ[i]?).getD none = o at q
  generalize (δ[i]?).getD .emp = x at q
  cases q with
  | own h _ _ => exact ⟨_, h⟩
theorem DSt.naT (S : DSt K P M al σ H δ ω) : ∀ b, NA M.N al b → Tr H b := fun b hb => by
  rcases hb with hb | ⟨i, hb⟩
  · exact S.nt b hb
  · obtain ⟨xs, q⟩ := S.own_there hb
    exact ⟨_, q, trivial⟩
theorem DSt.zna (S : DSt K P M al σ H δ ω) : ∀ b, M.Z b → NA M.N al b := fun b z => .inl (S.zn b z)
/-- behind a step that changes but Z's objects -/
theorem DSt.go (S : DSt K P M al σ H δ ω) (f : Fr M.Z H H') (g : M.G ω' H') : DSt K P M al σ H' δ ω' where
  pp := S.pp
  zn := S.zn
  gm := S.gm
  g := g
  nt := fun b hb => f.there b (S.nt b hb)
  fr := S.fr.trans f
  len := S.len
  sl := fun i hi => (S.sl i hi).mono f (fun a e z => (S.fresh i a e).2.1 (S.zn a z)) S.zna
  inj := S.inj
  fresh := S.fresh
theorem GM.same {Z : Addr → Prop} {G : Om → Hp → Prop} (gm : GM Z G) (s : Same H H') (g : G ω H) : G ω H' := gm ω H H' (fun b o e _ => s b o e) g
theorem DSt.same (S : DSt K P M al σ H δ ω) (s : Same H H') : DSt K P M al σ H' δ ω := S.go (.same s) (S.gm.same s S.g)
/-- the slots that hold a datum -/
theorem DSt.val (S : DSt K P M al σ H δ ω) {i : Nat} {d : D} (h : δ[i]? = some (.val d)) : ∃ v, σ[i]? = some (some v) ∧ Rep K M.sa (NA M.N al) H v d := by
  have hi : i < δ.length := (List.getElem?_eq_some_iff.mp h).1
  have q := S.sl i hi
  rw [h] at q
  have hs : i < σ.length := by rw [S.len]; exact hi
  rw [List.getElem?_eq_getElem hs] at q
  rw [List.getElem?_eq_getElem hs]
  simp only [Option.getD_some] at q
  generalize al i = o at q
  cases e : σ[i] with
  | none => rw [e] at q; cases q
  | some v =>
    rw [e] at q
    cases q with
    | val r => exact ⟨v, rfl, r⟩
theorem DSt.ownAt (S : DSt K P M al σ H δ ω) {i : Nat} {ds : List D} (h : δ[i]? = some (.own ds)) : ∃ a xs, al i = some a ∧ σ[i]? = some (some (.ref a)) ∧ H a = some (.lst xs) ∧ xs.length ≤ sizeLine ∧ Reps K M.sa (NA M.N al) H xs ds := by
  have hi : i < δ.length := (List.getElem?_eq_some_iff.mp h).1
  have q := S.sl i hi
  rw [h] at q
  have hs : i < σ.length := by rw [S.len]; exact hi
  rw [List.getElem?_eq_getElem hs] at q
  rw [List.getElem?_eq_getElem hs]
  simp only [Option.getD_some] at q
  generalize σ[i] = w at q ⊢
  generalize al i = z at q ⊢
  cases q with
  | own h1 h2 h3 => exact ⟨_, _, rfl, rfl, h1, h2, h3⟩
/-- a slot is stored -/
theorem DSt.set (S : DSt K P M al σ H δ ω) {i : Nat} {v : V} {d : D} (r : Rep K M.sa (NA M.N al) H v d) :
    DSt K P M (fun j => if j = i then none else al j) (σ.set i (some v)) H (δ.set i (.val d)) ω where
  pp := S.pp
  zn := S.zn
  gm := S.gm
  g := S.g
  nt := S.nt
  fr := S.fr
  len := by rw [List.length_set, List.length_set]; exact S.len
  sl := fun j hj => by
    have hle : ∀ b, NA M.N (fun j => if j = i then none else al j) b → Tr H b → NA M.N al b := fun b hb _ => by
      rcases hb with hb | ⟨k, hb⟩
      · exact .inl hb
      · by_cases e : k = i
        · simp only [e, if_pos] at hb; cases hb
        · simp only [if_neg e] at hb; exact .inr ⟨k, hb⟩
    rw [List.length_set] at hj
    by_cases e : j = i
    · subst e
      have hs : j < σ.length := by rw [S.len]; exact hj
      rw [List.getElem?_set_self hs, List.getElem?_set_self hj, if_pos rfl]
      exact .val (r.less hle)
    · rw [List.getElem?_set_ne (Ne.symm e), List.getElem?_set_ne (Ne.symm e), if_neg e]
      have q := S.sl j hj
      generalize (σ[j]?).getD none = o at q ⊢
      generalize (δ[j]?).getD .emp = x at q ⊢
      generalize al j = w at q ⊢
      cases q with
      | emp => exact .emp
      | val r => exact .val (r.less hle)
      | own h l r => exact .own h l (r.less hle)
  inj := fun j k a h1 h2 => by
    by_cases e1 : j = i
    · simp only [e1, if_pos] at h1; cases h1
    · by_cases e2 : k = i
      · simp only [e2, if_pos] at h2; cases h2
      · simp only [if_neg e1] at h1
        simp only [if_neg e2] at h2
        exact S.inj j k a h1 h2
  fresh := fun j a h => by
    by_cases e1 : j = i
    · simp only [e1, if_pos] at h; cases h
    · simp only [if_neg e1] at h
      rw [List.length_set]
      exact S.fresh j a h
end
def AlExt (H : Hp) (al al' : Nat → Option Addr) : Prop := ∀ i a, al' i = some a → (∃ j, al j = some a) ∨ ¬ Tr H a
theorem AlExt.refl {H : Hp} {al : Nat → Option Addr} : AlExt H al al := fun i _ h => .inl ⟨i, h⟩
theorem AlExt.trans {Z : Addr → Prop} {H H1 : Hp} {al al1 al2 : Nat → Option Addr} (x : AlExt H al al1) (f : Fr Z H H1) (y : AlExt H1 al1 al2) : AlExt H al al2 := fun i a h => by
  rcases y i a h with ⟨j, q⟩ | q
  · exact x j a q
  · exact .inr fun t => q (f.there a t)
theorem AlExt.drop {H : Hp} {al : Nat → Option Addr} {i : Nat} : AlExt H al (fun j => if j = i then none else al j) := fun j a h => by
  by_cases e : j = i
  · simp only [e, if_pos] at h; cases h
  · simp only [if_neg e] at h; exact .inl ⟨j, h⟩

/-! ### the judgements -/
def ExR (K : PySem.W.Frag) (sa : Addr) (N : Addr → Prop) (H : Hp) (x : Ex) (cls : Value) (dd : Option Addr) : Prop :=
  cls = .ref (He.ga K x.1) ∧ ((x.2 = [] ∧ dd = none) ∨ ∃ (f : Str) (d : D) (a : Addr) (v : V), x.2 = [(f, d)] ∧ dd = some a ∧ H a = some (.xd [(f, v)]) ∧ Rep K sa N H v d)
theorem ExR.less {K : PySem.W.Frag} {sa : Addr} {N N' : Addr → Prop} {H : Hp} {x : Ex} {cls : Value} {dd : Option Addr} (hn : ∀ b, N' b → Tr H b → N b) (h : ExR K sa N H x cls dd) : ExR K sa N' H x cls dd := by
  obtain ⟨h1, h2 | ⟨f, d, a, v, q1, q2, q3, q4⟩⟩ := h
  · exact ⟨h1, .inl h2⟩
  · exact ⟨h1, .inr ⟨f, d, a, v, q1, q2, q3, q4.less hn⟩⟩
def PErr (K : PySem.W.Frag) (M : Fm) (N : Addr → Prop) (H : Hp) (W : XK) (x : Ex) (ω : Om) : Prop := ∀ cls dd H', Fr M.Z H H' → M.G ω H' → ExR K M.sa N H' x cls dd → W cls dd H'
def PostR {α β : Type} (K : PySem.W.Frag) (M : Fm) (al : Nat → Option Addr) (σ : L2.St) (H : Hp) (δ : Sls) (rel : Hp → β → α → Prop) (r : Rs α) (Q : β → Hp → Prop) (W : Wt) : Prop := match r with
  | .ok d ω => ∀ v H', DSt K W.P M al σ H' δ ω → Fr M.Z H H' → rel H' v d → Q v H'
  | .err x ω => PErr K M (NA M.N al) H W.w x ω
  | .bad => False
abbrev relE (K : PySem.W.Frag) (M : Fm) (al : Nat → Option Addr) : Hp → V → D → Prop := fun H v d => Rep K M.sa (NA M.N al) H v d
abbrev relA (K : PySem.W.Frag) (M : Fm) (al : Nat → Option Addr) : Hp → List V → List D → Prop := fun H v d => Reps K M.sa (NA M.N al) H v d
abbrev relT : Hp → Bool → Bool → Prop := fun _ b c => b = c
structure PEd (X : Cx) (W : Wt) (e : Expr) (f : EvE) : Prop where
  ex : ∃ t, PE X e t ∧ ∀ M al σ H δ ω Q, DSt X.K W.P M al σ H δ ω → PostR X.K M al σ H δ (relE X.K M al) (f δ ω) Q W → t σ H Q
structure PTd (X : Cx) (W : Wt) (e : Expr) (f : EvT) : Prop where
  ex : ∃ t, PT X e t ∧ ∀ M al σ H δ ω Q, DSt X.K W.P M al σ H δ ω → PostR X.K M al σ H δ relT (f δ ω) Q W → t σ H Q
structure PWd (X : Cx) (W : Wt) (e : Expr) (f : EvT) : Prop where
  ex : ∃ t, PW X e t ∧ ∀ M al σ H δ ω Q, DSt X.K W.P M al σ H δ ω → PostR X.K M al σ H δ relT (f δ ω) Q W → t σ H Q
structure PAd (X : Cx) (W : Wt) (es : List Expr) (f : EvA) : Prop where
  ex : ∃ t, PA X es t ∧ ∀ M al σ H δ ω Q, DSt X.K W.P M al σ H δ ω → PostR X.K M al σ H δ (relA X.K M al) (f δ ω) Q W → t σ H Q
/-- what stays behind statements: what own lists hold may change, too -/
abbrev FrS (M : Fm) (al : Nat → Option Addr) (H H' : Hp) : Prop := Fr (fun b => M.Z b ∨ ∃ i, al i = some b) H H'
theorem keepO.imp {Z Z' : Addr → Prop} (h : ∀ b, Z' b → Z b) {b : Addr} : ∀ {o : HO}, keepO Z b o → keepO Z' b o
  | .lst _, k => fun z => k (h b z)
  | .dK _, k => fun z => k (h b z)
  | .dT _, k => fun z => k (h b z)
  | .set _ _, k => fun z => k (h b z)
  | .ins _ _ _, k => fun z => k (h b z)
  | .tbl _, k => k
  | .tup _, _ => trivial
  | .own _, _ => trivial
  | .xd _, _ => trivial
  | .met _ _, _ => trivial
  | .rng _ _, _ => trivial
  | .frz _ _, _ => trivial
  | .ext _, _ => trivial
theorem Fr.wide {Z Z' : Addr → Prop} {H H' : Hp} (h : ∀ b, Z' b → Z b) (f : Fr Z' H H') : Fr Z H H' := ⟨fun b o e k => f.keep b o e (k.imp h), f.there⟩
theorem Fr.s {M : Fm} {al : Nat → Option Addr} {H H' : Hp} (f : Fr M.Z H H') : FrS M al H H' := f.wide fun _ z => .inl z
theorem FrS.trans {M : Fm} {al al1 : Nat → Option Addr} {H H1 H2 : Hp} (f : FrS M al H H1) (x : AlExt H al al1) (f2 : FrS M al1 H1 H2) : FrS M al H H2 := by
  refine ⟨fun b o e k => ?_, fun b h => f2.there b (f.there b h)⟩
  have e1 := f.keep b o e k
  by_cases hb : ∃ i, al1 i = some b
  · obtain ⟨i, hi⟩ := hb
    rcases x i b hi with ⟨j, hj⟩ | hj
    · have nk : ∀ {P : Prop}, keepO (fun b => M.Z b ∨ ∃ i, al i = some b) b o → (¬ (M.Z b ∨ ∃ i, al i = some b) → P) → True := fun _ _ => trivial
      exact f2.keep b o e1 (by
        cases o <;> first | trivial | exact absurd (.inr ⟨j, hj⟩) k | exact k)
    · exact absurd ⟨o, e, .of_keep k⟩ hj
  · refine f2.keep b o e1 ?_
    cases o <;> first | trivial | exact k | exact fun z => z.elim (fun z => k (.inl z)) hb
theorem FrS.trans0 {M : Fm} {al : Nat → Option Addr} {H H1 H2 : Hp} (f : FrS M al H H1) (f2 : FrS M al H1 H2) : FrS M al H H2 := Fr.trans f f2
def PostS (K : PySem.W.Frag) (M : Fm) (al : Nat → Option Addr) (H : Hp) (r : Rs Fl) (D : Ends) (W : Wt) : Prop := match r with
  | .ok (.nx δ) ω => ∀ al' σ' H', DSt K W.P M al' σ' H' δ ω → FrS M al H H' → AlExt H al al' → D.nx σ' H'
  | .ok (.bk δ) ω => ∀ al' σ' H', DSt K W.P M al' σ' H' δ ω → FrS M al H H' → AlExt H al al' → D.bk σ' H'
  | .ok (.ct δ) ω => ∀ al' σ' H', DSt K W.P M al' σ' H' δ ω → FrS M al H H' → AlExt H al al' → D.ct σ' H'
  | .ok (.rt d) ω => ∀ v H', Fr M.Z M.H0 H' → M.G ω H' → Rep K M.sa M.N H' v d → D.rt v H'
  | .err x ω => PErr K M M.N M.H0 W.w x ω
  | .bad => False
structure PSd (X : Cx) (W : Wt) (st : Stmt) (f : EvS) : Prop where
  ex : ∃ t, PS X st t ∧ ∀ M al σ H δ ω D, DSt X.K W.P M al σ H δ ω → PostS X.K M al H (f δ ω) D W → t D σ H
structure PSsd (X : Cx) (W : Wt) (st : List Stmt) (f : EvS) : Prop where
  ex : ∃ t, PSs X st t ∧ ∀ M al σ H δ ω D, DSt X.K W.P M al σ H δ ω → PostS X.K M al H (f δ ω) D W → t D σ H
/-- a promise: the function fn of data -/
def spD (K : PySem.W.Frag) (P : PP) (n : Nat) (fn : List D → Om → Rs D) : Sp := fun vs H Q E => vs.length = n ∧ ∃ (M : Fm) (ds : List D) (ω : Om), M.H0 = H ∧ P M.sa M.Z M.G ∧ (∀ b, M.Z b → M.N b) ∧ GM M.Z M.G ∧ M.G ω H ∧ (∀ b, M.N b → Tr H b) ∧ Reps K M.sa M.N H vs ds ∧
  match fn ds ω with
  | .ok d ω' => ∀ v H', Fr M.Z H H' → M.G ω' H' → Rep K M.sa M.N H' v d → Q v H'
  | .err x ω' => PErr K M M.N M.H0 E x ω'
  | .bad => False
/-- a body, run -/
def runB (n : Nat) (g : EvS) : List D → Om → Rs D := fun ds ω => (g (ds.map .val ++ List.replicate (n - ds.length) .emp) ω).bind fun fl ω' => match fl with
  | .nx _ => .ok .non ω'
  | .rt d => .ok d ω'
  | _ => .bad
end DL

namespace DL
open PySem PySem.Spec PyProof.Rows L2
section
variable {X : Cx} {W : Wt} {K : PySem.W.Frag} {M : Fm} {al : Nat → Option Addr} {σ : L2.St} {H : Hp} {δ : Sls}
/-! ### one thing behind another -/
theorem post_bind {α β γ : Type} {rel : Hp → γ → α → Prop} {r : Rs α} {k : α → Om → Rs β} {β' : Type} {rel2 : Hp → β' → β → Prop} {Q : β' → Hp → Prop}
    (h : PostR K M al σ H δ rel2 (r.bind k) Q W) : PostR K M al σ H δ rel r (fun v H1 => ∃ a ω, r = .ok a ω ∧ DSt K W.P M al σ H1 δ ω ∧ Fr M.Z H H1 ∧ rel H1 v a ∧ PostR K M al σ H δ rel2 (k a ω) Q W) W := by
  cases r with
  | ok a ω => exact fun v H' S f q => ⟨a, ω, rfl, S, f, q, h⟩
  | err x ω => exact h
  | bad => exact h
theorem post_from {α β : Type} {rel : Hp → β → α → Prop} {r : Rs α} {Q : β → Hp → Prop} {H1 : Hp} (f : Fr M.Z H H1) (h : PostR K M al σ H δ rel r Q W) : PostR K M al σ H1 δ rel r Q W := by
  cases r with
  | ok a ω => exact fun v H' S f' q => h v H' S (f.trans f') q
  | err x ω => exact fun cls dd H' f' => h cls dd H' (f.trans f')
  | bad => exact h
theorem post_mono {α β : Type} {rel : Hp → β → α → Prop} {r : Rs α} {Q Q' : β → Hp → Prop} (hq : ∀ v H', Q v H' → Q' v H') (h : PostR K M al σ H δ rel r Q W) : PostR K M al σ H δ rel r Q' W := by
  cases r with
  | ok a ω => exact fun v H' S f' q => hq _ _ (h v H' S f' q)
  | err x ω => exact h
  | bad => exact h
/-! ### names and constants -/
def eVar (i : Nat) : EvE := fun δ ω => match δ[i]? with
  | some (.val d) => .ok d ω
  | _ => .bad
def eC (d : D) : EvE := fun _ ω => .ok d ω
theorem pd_var (i : Nat) {x : Str} {pos : Pos} (hN : X.N[i]? = some x := by rfl) (hv : Vis X.env.scope x := by first | exact Or.inl rfl | exact Or.inr (Or.inl rfl) | exact Or.inr (Or.inr rfl)) (hd : (x == ("__debug__" : Str)) = false := by decide)
    (hcd : (x == ("__classdict__" : Str)) = false := by decide) : PEd X W (.Name x pos) (eVar i) := by
  refine ⟨_, pe_var hN hv hd hcd, fun M al σ H δ ω Q S h => ?_⟩
  unfold eVar at h
  split at h
  · rename_i d e
    obtain ⟨v, e1, r⟩ := S.val e
    exact ⟨v, e1, h v H S (Fr.refl H) r⟩
  · exact h.elim
theorem pd_const {e : Expr} {v : V} {d : D} (h : PE X e (tC v)) (r : ∀ sa N H, Rep X.K sa N H v d) : PEd X W e (eC d) :=
  ⟨_, h, fun M al σ H δ ω Q S q => q v H S (Fr.refl H) (r _ _ _)⟩
theorem pd_int {i : Int} {j pos} : PEd X W (.Constant (.int i) j pos) (eC (.int i)) := pd_const pe_int fun _ _ _ => .int i
theorem pd_bl {b j pos} : PEd X W (.Constant (.bool b) j pos) (eC (.bl b)) := pd_const pe_bl fun _ _ _ => .bl b
theorem pd_non {j pos} : PEd X W (.Constant .none j pos) (eC .non) := pd_const pe_non fun _ _ _ => .non
theorem pd_str {x : Str} {j pos} : PEd X W (.Constant (.str x) j pos) (eC (.str x)) := pd_const pe_str fun _ _ _ => .str x
/-- a constant of the module -/
theorem pd_glob {x : Str} {v : V} {d : D} {pos : Pos} (hm : ∃ u, X.mg x = some u ∧ RelV v u) (r : ∀ sa N H, Rep X.K sa N H v d) (hg : Gl X x := by rfl) (hd : (x == ("__debug__" : Str)) = false := by decide) : PEd X W (.Name x pos) (eC d) := by
  obtain ⟨u, h1, h2⟩ := hm
  exact pd_const (pe_glob hg h1 h2 hd) r
/-! ### operators -/
structure Op2 (K : PySem.W.Frag) (r : R2) (g : D → D → Option D) : Prop where
  ok : ∀ sa N H x y a b d Q, Rep K sa N H x a → Rep K sa N H y b → g a b = some d → (∀ b, N b → Tr H b) → (∀ v H', Same H H' → Rep K sa N H' v d → Q v H') → r x y H Q
structure Op1 (K : PySem.W.Frag) (r : V → Hp → VK → Prop) (g : D → Option D) : Prop where
  ok : ∀ sa N H x a d Q, Rep K sa N H x a → g a = some d → (∀ b, N b → Tr H b) → (∀ v H', Same H H' → Rep K sa N H' v d → Q v H') → r x H Q
structure OpN (K : PySem.W.Frag) (r : List V → Hp → VK → Prop) (g : List D → Option D) : Prop where
  ok : ∀ sa N H xs as d Q, Reps K sa N H xs as → g as = some d → (∀ b, N b → Tr H b) → (∀ v H', Same H H' → Rep K sa N H' v d → Q v H') → r xs H Q
def rs1 (o : Option D) (ω : Om) : Rs D := match o with
  | some d => .ok d ω
  | none => .bad
def eOp2 (g : D → D → Option D) (fa fb : EvE) : EvE := fun δ ω => (fa δ ω).bind fun a ω1 => (fb δ ω1).bind fun b ω2 => rs1 (g a b) ω2
def eOp1 (g : D → Option D) (fa : EvE) : EvE := fun δ ω => (fa δ ω).bind fun a ω1 => rs1 (g a) ω1
def eOpN (g : List D → Option D) (fa : EvA) : EvE := fun δ ω => (fa δ ω).bind fun a ω1 => rs1 (g a) ω1
/-- two values, one behind the other, then r -/
theorem tOp_ok {a b : Expr} {r : R2} {g : D → D → Option D} {fa fb : EvE} {ta tb : TE} (ho : Op2 X.K r g)
    (ha : ∀ M al σ H δ ω Q, DSt X.K W.P M al σ H δ ω → PostR X.K M al σ H δ (relE X.K M al) (fa δ ω) Q W → ta σ H Q)
    (hb : ∀ M al σ H δ ω Q, DSt X.K W.P M al σ H δ ω → PostR X.K M al σ H δ (relE X.K M al) (fb δ ω) Q W → tb σ H Q) :
    ∀ M al σ H δ ω Q, DSt X.K W.P M al σ H δ ω → PostR X.K M al σ H δ (relE X.K M al) (eOp2 g fa fb δ ω) Q W → tOp r ta tb σ H Q := fun M al σ H δ ω Q S h => by
  refine ha M al σ H δ ω _ S (post_mono (fun x H1 h1 => ?_) (post_bind (rel := relE X.K M al) h))
  obtain ⟨d1, ω1, _, S1, f1, r1, h1⟩ := h1
  refine hb M al σ H1 δ ω1 _ S1 (post_mono (fun y H2 h2 => ?_) (post_bind (rel := relE X.K M al) (post_from f1 h1)))
  obtain ⟨d2, ω2, _, S2, f2, r2, h2⟩ := h2
  unfold rs1 at h2
  split at h2
  · rename_i d e
    exact ho.ok M.sa (NA M.N al) H2 x y d1 d2 d Q (r1.mono f2 S1.zna) r2 e S2.naT fun v H' s q => h2 v H' (S2.same s) (f2.trans (.same s)) q
  · exact h2.elim
variable {a b e c : Expr} {es : List Expr} {fa fb fc : EvE} {ft fu : EvT} {fs : EvA} {pos : Pos}
theorem pd_op {op : Operator} {r : R2} {g : D → D → Option D} (ho : OpR X (binaryOp op) r) (hg : Op2 X.K r g) (ha : PEd X W a fa) (hb : PEd X W b fb) : PEd X W (.BinOp a op b pos) (eOp2 g fa fb) := by
  obtain ⟨ta, p1, q1⟩ := ha.ex
  obtain ⟨tb, p2, q2⟩ := hb.ex
  exact ⟨_, pe_op ho p1 p2, tOp_ok (a := a) (b := b) hg q1 q2⟩
theorem pd_cmp {op : CmpOp} {r : R2} {g : D → D → Option D} (ho : OpR X (compareOp op) r) (hg : Op2 X.K r g) (hm : behindInMarks op b = false) (ha : PEd X W a fa) (hb : PEd X W b fb) : PEd X W (.Compare a [op] [b] pos) (eOp2 g fa fb) := by
  obtain ⟨ta, p1, q1⟩ := ha.ex
  obtain ⟨tb, p2, q2⟩ := hb.ex
  exact ⟨_, pe_cmpR ho p1 p2 hm, tOp_ok (a := a) (b := b) hg q1 q2⟩
theorem pd_ix {r : R2} {g : D → D → Option D} (ho : IxR X r) (hg : Op2 X.K r g) (ha : PEd X W a fa) (hb : PEd X W b fb) (hs : PlainIx b := by exact fun _ _ => rfl) : PEd X W (.Subscript a b pos) (eOp2 g fa fb) := by
  obtain ⟨ta, p1, q1⟩ := ha.ex
  obtain ⟨tb, p2, q2⟩ := hb.ex
  exact ⟨_, pe_ix ho p1 p2 hs, tOp_ok (a := a) (b := b) hg q1 q2⟩
theorem tUn_ok {r : V → Hp → VK → Prop} {g : D → Option D} {ta : TE} (ho : Op1 X.K r g)
    (ha : ∀ M al σ H δ ω Q, DSt X.K W.P M al σ H δ ω → PostR X.K M al σ H δ (relE X.K M al) (fa δ ω) Q W → ta σ H Q) :
    ∀ M al σ H δ ω Q, DSt X.K W.P M al σ H δ ω → PostR X.K M al σ H δ (relE X.K M al) (eOp1 g fa δ ω) Q W → tUn r ta σ H Q := fun M al σ H δ ω Q S h => by
  refine ha M al σ H δ ω _ S (post_mono (fun x H1 h1 => ?_) (post_bind (rel := relE X.K M al) h))
  obtain ⟨d1, ω1, _, S1, f1, r1, h1⟩ := h1
  unfold rs1 at h1
  split at h1
  · rename_i d e
    exact ho.ok M.sa (NA M.N al) H1 x d1 d Q r1 e S1.naT fun v H' s q => h1 v H' (S1.same s) (f1.trans (.same s)) q
  · exact h1.elim
theorem pd_un {op : UnaryOp} {r : V → Hp → VK → Prop} {g : D → Option D} (ho : UnR X (unaryOp op) r) (hg : Op1 X.K r g) (ha : PEd X W a fa) : PEd X W (.UnaryOp op a pos) (eOp1 g fa) := by
  obtain ⟨ta, p1, q1⟩ := ha.ex
  exact ⟨_, pe_un ho p1, tUn_ok hg q1⟩
/-! ### arguments -/
def aNil : EvA := fun _ ω => .ok [] ω
def aCons (fa : EvE) (fs : EvA) : EvA := fun δ ω => (fa δ ω).bind fun d ω1 => (fs δ ω1).bind fun ds ω2 => .ok (d :: ds) ω2
theorem ad_nil : PAd X W [] aNil := ⟨_, pa_nil, fun M al σ H δ ω Q S h => h [] H S (Fr.refl H) .nil⟩
theorem ad_cons (ha : PEd X W e fa) (hr : PAd X W es fs) (hs : starEach (e :: es) X.env = (false, eval e X.env) :: starEach es X.env := by rfl) : PAd X W (e :: es) (aCons fa fs) := by
  obtain ⟨ta, p1, q1⟩ := ha.ex
  obtain ⟨tb, p2, q2⟩ := hr.ex
  refine ⟨_, pa_cons p1 p2 hs, fun M al σ H δ ω Q S h => ?_⟩
  refine q1 M al σ H δ ω _ S (post_mono (fun x H1 h1 => ?_) (post_bind (rel := relE X.K M al) h))
  obtain ⟨d1, ω1, _, S1, f1, r1, h1⟩ := h1
  refine q2 M al σ H1 δ ω1 _ S1 (post_mono (fun y H2 h2 => ?_) (post_bind (rel := relA X.K M al) (post_from f1 h1)))
  obtain ⟨d2, ω2, _, S2, f2, r2, h2⟩ := h2
  exact h2 (x :: y) H2 S2 f2 (.cons (r1.mono f2 S1.zna) r2)
theorem tN_ok {r : List V → Hp → VK → Prop} {g : List D → Option D} {t : TA} (ho : OpN X.K r g)
    (ha : ∀ M al σ H δ ω Q, DSt X.K W.P M al σ H δ ω → PostR X.K M al σ H δ (relA X.K M al) (fs δ ω) Q W → t σ H Q) :
    ∀ M al σ H δ ω Q, DSt X.K W.P M al σ H δ ω → PostR X.K M al σ H δ (relE X.K M al) (eOpN g fs δ ω) Q W → t σ H (fun xs H1 => r xs H1 Q) := fun M al σ H δ ω Q S h => by
  refine ha M al σ H δ ω _ S (post_mono (fun x H1 h1 => ?_) (post_bind (rel := relA X.K M al) h))
  obtain ⟨d1, ω1, _, S1, f1, r1, h1⟩ := h1
  unfold rs1 at h1
  split at h1
  · rename_i d e
    exact ho.ok M.sa (NA M.N al) H1 x d1 d Q r1 e S1.naT fun v H' s q => h1 v H' (S1.same s) (f1.trans (.same s)) q
  · exact h1.elim
/-- a built-in called by its name -/
theorem pd_callB {id : String} {x : Str} {p : Pos} {r : List V → Hp → VK → Prop} {g : List D → Option D} (hc : CallR X (.builtin id) r) (ho : OpN X.K r g) (hm : X.mg x = none) (hv : bootBuiltins x = some (.builtin id)) (ha : PAd X W (e :: es) fs) (hg : Gl X x := by rfl) (hn : x ≠ "__name__" := by decide) (hdb : (x == ("__debug__" : Str)) = false := by decide)
    (he : starEach (e :: es) X.env = (false, eval e X.env) :: starEach es X.env := by rfl) (hpl : (backTo pos (starEach es X.env)).any (·.1) = false := by rfl) : PEd X W (.Call (.Name x p) (e :: es) [] pos) (eOpN g fs) := by
  obtain ⟨t, p1, q1⟩ := ha.ex
  exact ⟨_, pe_callB hc hg hm hv p1 hn hdb he hpl, tN_ok ho q1⟩
theorem pd_callTy {T : String} {x : Str} {p : Pos} {r : List V → Hp → VK → Prop} {g : List D → Option D} (hc : CallR X (.type T) r) (ho : OpN X.K r g) (hm : X.mg x = none) (hv : bootBuiltins x = some (.type T)) (ha : PAd X W (e :: es) fs) (hg : Gl X x := by rfl) (hn : x ≠ "__name__" := by decide) (hdb : (x == ("__debug__" : Str)) = false := by decide)
    (he : starEach (e :: es) X.env = (false, eval e X.env) :: starEach es X.env := by rfl) (hpl : (backTo pos (starEach es X.env)).any (·.1) = false := by rfl) : PEd X W (.Call (.Name x p) (e :: es) [] pos) (eOpN g fs) := by
  obtain ⟨t, p1, q1⟩ := ha.ex
  exact ⟨_, pe_callTy hc hg hm hv p1 hn hdb he hpl, tN_ok ho q1⟩
/-- methods of built-in types: the receiver is of the type -/
structure OpM (K : PySem.W.Frag) (T : String) (r : V → List V → Hp → VK → Prop) (g : D → List D → Option D) : Prop where
  ty : ∀ sa N H x a as d, Rep K sa N H x a → g a as = some d → tyV K T x H
  ok : ∀ sa N H x a xs as d Q, Rep K sa N H x a → Reps K sa N H xs as → g a as = some d → (∀ b, N b → Tr H b) → (∀ v H', Same H H' → Rep K sa N H' v d → Q v H') → r x xs H Q
def isStr : D → Bool
  | .str _ => true
  | _ => false
/-- a text's method -/
def eStrM (g : D → List D → Option D) (fo : EvE) (fs : EvA) : EvE := fun δ ω => (fo δ ω).bind fun x ω1 => if isStr x then (fs δ ω1).bind fun xs ω2 => rs1 (g x xs) ω2 else .bad
theorem pd_strM {o : Expr} {apos : Pos} {name : Str} {id : String} {r : V → List V → Hp → VK → Prop} {g : D → List D → Option D} (slot : Slot "str" name id) (hty : typeOf (.builtin id) = pure (.type "method_descriptor")) (hm : MtR X id r)
    (ho : ∀ sa N H x a xs as d Q, Rep X.K sa N H x a → Reps X.K sa N H xs as → g a as = some d → (∀ b, N b → Tr H b) → (∀ v H', Same H H' → Rep X.K sa N H' v d → Q v H') → r x xs H Q)
    (h1 : PEd X W o fa) (h2 : PAd X W (e :: es) fs) (hbase : attributeBase o name X.env (eval o X.env) = eval o X.env := by rfl)
    (hfew : ((backTo pos (starEach (e :: es) X.env)).all (fun x => !x.1) && (backToKw pos (keywordEach [] X.env)).all (fun x => x.1.isSome)
      && decide ((e :: es).length + ([] : List Keyword).length + (if ([] : List Keyword).isEmpty then 0 else 1) < 30)) = true := by rfl)
    (hline : (apos.endLine == pos.line) = true := by rfl) (hs : starEach (e :: es) X.env = (false, eval e X.env) :: starEach es X.env := by rfl) (hplain : (backTo pos (starEach es X.env)).any (·.1) = false := by rfl) : PEd X W (.Call (.Attribute o name apos) (e :: es) [] pos) (eStrM g fa fs) := by
  obtain ⟨to, p1, q1⟩ := h1.ex
  obtain ⟨t, p2, q2⟩ := h2.ex
  refine ⟨_, pe_bm PySem.F.plainAttrs_str slot hty hm p1 p2 hbase hfew hline hs hplain, fun M al σ H δ ω Q S h => ?_⟩
  refine q1 M al σ H δ ω _ S (post_mono (fun x H1 h1 => ?_) (post_bind (rel := relE X.K M al) h))
  obtain ⟨d1, ω1, _, S1, f1, r1, h1⟩ := h1
  split at h1
  · rename_i hs
    refine ⟨?_, ?_⟩
    · cases r1 <;> first | (cases hs; done) | exact ⟨_, rfl⟩ | trivial | rfl
    · refine q2 M al σ H1 δ ω1 _ S1 (post_mono (fun y H2 h2 => ?_) (post_bind (rel := relA X.K M al) (post_from f1 h1)))
      obtain ⟨d2, ω2, _, S2, f2, r2, h2⟩ := h2
      unfold rs1 at h2
      split at h2
      · rename_i d e
        exact ho M.sa (NA M.N al) H2 x d1 y d2 d Q (r1.mono f2 S1.zna) r2 e S2.naT fun v H' s q => h2 v H' (S2.same s) (f2.trans (.same s)) q
      · exact h2.elim
  · exact h1.elim
end
end DL

namespace DL
open PySem PySem.Spec PyProof.Rows L2
section
variable {X : Cx} {W : Wt} {K : PySem.W.Frag} {M : Fm} {al : Nat → Option Addr} {σ : L2.St} {H : Hp} {δ : Sls}
variable {a b e c : Expr} {es : List Expr} {fa fb fc : EvE} {ft fu : EvT} {fs : EvA} {pos : Pos}
/-! ### displays -/
def gTup (ds : List D) : Option D := if ds.length ≤ sizeLine then some (.tup ds) else none
def gLst (ds : List D) : Option D := if ds.length ≤ sizeLine then some (.lst ds) else none
theorem pd_tup {x1} (h : PAd X W es fs) : PEd X W (.Tuple es x1 pos) (eOpN gTup fs) := by
  obtain ⟨t, p1, q1⟩ := h.ex
  refine ⟨_, pe_tup p1, tN_ok (r := fun xs H Q => xs.length ≤ sizeLine ∧ ∀ p, H p = none → Q (.ref p) (upd H p (.tup xs))) ⟨fun sa N H xs as d Q r hg nt k => ?_⟩ q1⟩
  unfold gTup at hg
  split at hg
  · rename_i hl
    cases hg
    rw [← r.len] at hl
    refine ⟨hl, fun p hp => k _ _ (same_upd hp) (.tup (SqT.of upd_same) hl (r.mono (Z := fun _ => False) (.same (same_upd hp)) fun _ z => z.elim))⟩
  · cases hg
theorem new_ok {sa : Addr} {N : Addr → Prop} {xs : List V} {as : List D} {p : Addr} (nt : ∀ b, N b → Tr H b) (hp : H p = none) (hl : xs.length ≤ sizeLine) (r : Reps K sa N H xs as) : Rep K sa N (upd H p (.lst xs)) (.ref p) (.lst as) :=
  .lst upd_same (fun z => Tr.not hp (nt p z)) hl (r.mono (Z := fun _ => False) (.same (same_upd hp)) fun _ z => z.elim)
theorem pd_lst (h : PAd X W es fs) : PEd X W (.List es pos) (eOpN gLst fs) := by
  obtain ⟨t, p1, q1⟩ := h.ex
  refine ⟨_, pe_lst p1, tN_ok (r := fun xs H Q => xs.length ≤ sizeLine ∧ ∀ p, H p = none → Q (.ref p) (upd H p (.lst xs))) ⟨fun sa N H xs as d Q r hg nt k => ?_⟩ q1⟩
  unfold gLst at hg
  split at hg
  · rename_i hl
    cases hg
    rw [← r.len] at hl
    exact ⟨hl, fun p hp => k _ _ (same_upd hp) (new_ok nt hp hl r)⟩
  · cases hg
/-! ### calls of the text's defs -/
def eCall (fn : List D → Om → Rs D) (fs : EvA) : EvE := fun δ ω => (fs δ ω).bind fn
theorem sp_ok {P' : PP} (hP : ∀ sa Z G, W.P sa Z G → P' sa Z G) {n : Nat} {fn : List D → Om → Rs D} {xs : List V} {as : List D} {ω : Om} {Q : VK} (S : DSt K W.P M al σ H δ ω) (r : Reps K M.sa (NA M.N al) H xs as) (hn : xs.length = n)
    (h : PostR K M al σ H δ (relE K M al) (fn as ω) Q W) : spD K P' n fn xs H Q W.w := by
  refine ⟨hn, ⟨M.sa, M.Z, NA M.N al, M.G, H⟩, as, ω, rfl, hP _ _ _ S.pp, S.zna, S.gm, S.g, S.naT, r, ?_⟩
  cases e : fn as ω with
  | ok d ω' =>
    rw [e] at h
    exact fun v H' f g r => h v H' (S.go f g) f r
  | err x ω' =>
    rw [e] at h
    exact h
  | bad =>
    rw [e] at h
    exact h
theorem aLen {n : Nat} {fs : EvA} (h : ∀ δ ω ds ω', fs δ ω = .ok ds ω' → ds.length = n) : ∀ δ ω ds ω', fs δ ω = .ok ds ω' → ds.length = n := h
def LenA (n : Nat) (fs : EvA) : Prop := ∀ δ ω ds ω', fs δ ω = .ok ds ω' → ds.length = n
theorem LenA.nil : LenA 0 aNil := fun δ ω ds ω' h => by
  cases h
  rfl
theorem LenA.cons {n : Nat} (h : LenA n fs) : LenA (n + 1) (aCons fa fs) := fun δ ω ds ω' q => by
  unfold aCons at q
  cases e : fa δ ω with
  | ok d ω1 =>
    rw [e, Rs.bind_ok] at q
    cases e2 : fs δ ω1 with
    | ok ds2 ω2 =>
      rw [e2, Rs.bind_ok] at q
      cases q
      exact congrArg (· + 1) (h _ _ _ _ e2)
    | err x ω2 => rw [e2, Rs.bind_err] at q; cases q
    | bad => rw [e2, Rs.bind_bad] at q; cases q
  | err x ω1 => rw [e, Rs.bind_err] at q; cases q
  | bad => rw [e, Rs.bind_bad] at q; cases q
theorem pd_call {P' : PP} {k n : Nat} {f : Addr} {fd : FuncData} {ps : List Str} {x : Str} {p : Pos} {fn : List D → Om → Rs D} (F : FnOk X.prog X.w X.K X.mg X.base (L2.CX X.prog X.w) k f fd ps (spD X.K P' n fn)) (hr : Room k X.A) (hm : X.mg x = some (.ref f)) (hk : PySem.W.keepIn X.K (.ref f) = true) (hb : Binds X.K fd ps [])
    (tk : Takes X (fun cls d _ H => W.w cls d H)) (hP : ∀ sa Z G, W.P sa Z G → P' sa Z G) (hl : LenA n fs) (ha : PAd X W (e :: es) fs) (hg : Gl X x := by rfl) (hdb : (x == ("__debug__" : Str)) = false := by decide) (he : starEach (e :: es) X.env = (false, eval e X.env) :: starEach es X.env := by rfl) (hpl : (backTo pos (starEach es X.env)).any (·.1) = false := by rfl) :
    PEd X W (.Call (.Name x p) (e :: es) [] pos) (eCall fn fs) := by
  obtain ⟨t, p1, q1⟩ := ha.ex
  refine ⟨_, pe_callS (E := fun _ => W.w) F hr hg hm hk hb (fun σ => passAt tk σ) p1 hdb he hpl, fun M al σ H δ ω Q S h => ?_⟩
  refine q1 M al σ H δ ω _ S (post_mono (fun x H1 h1 => ?_) (post_bind (rel := relA X.K M al) h))
  obtain ⟨d1, ω1, e1, S1, f1, r1, h1⟩ := h1
  exact sp_ok hP S1 r1 (r1.len.trans (hl _ _ _ _ e1)) (post_from f1 h1)
/-- .. without arguments -/
theorem pd_call0 {P' : PP} {k : Nat} {f : Addr} {fd : FuncData} {ps : List Str} {x : Str} {p : Pos} {fn : List D → Om → Rs D} (F : FnOk X.prog X.w X.K X.mg X.base (L2.CX X.prog X.w) k f fd ps (spD X.K P' 0 fn)) (hr : Room k X.A) (hm : X.mg x = some (.ref f)) (hk : PySem.W.keepIn X.K (.ref f) = true) (hb : Binds X.K fd ps [])
    (tk : Takes X (fun cls d _ H => W.w cls d H)) (hP : ∀ sa Z G, W.P sa Z G → P' sa Z G) (hg : Gl X x := by rfl) (hdb : (x == ("__debug__" : Str)) = false := by decide) :
    PEd X W (.Call (.Name x p) [] [] pos) (eCall fn aNil) := by
  refine ⟨_, pe_call0 (E := W.w) F hr hg hm hk hb .nil (passes_call tk fun _ _ _ _ h => h) hdb, fun M al σ H δ ω Q S h => ?_⟩
  exact sp_ok hP (xs := []) S .nil rfl h
/-! ### tests -/
def tB (fa : EvE) : EvT := fun δ ω => (fa δ ω).bind fun d ω1 => match d with
  | .bl b => .ok b ω1
  | _ => .bad
theorem td_val (h : PEd X W e fa) (he : ∀ whole, isTrue e X.env whole = (do let v ← whole; standAt e.pos; holding [v] (truthy v)) := by intro _; rfl) : PTd X W e (tB fa) := by
  obtain ⟨t, p1, q1⟩ := h.ex
  refine ⟨_, pt_val p1 he, fun M al σ H δ ω Q S h => ?_⟩
  refine q1 M al σ H δ ω _ S (post_mono (fun x H1 h1 => ?_) (post_bind (rel := relE X.K M al) h))
  obtain ⟨d1, ω1, e1, S1, f1, r1, h1⟩ := h1
  cases r1 <;> first | exact ⟨_, rfl, h1 _ _ S1 f1 rfl⟩ | exact h1.elim
theorem td_cmp {op : CmpOp} {r : R2} {g : D → D → Option D} (ho : OpR X (compareOp op) r) (hg : Op2 X.K r g) (hm : behindInMarks op b = false) (ha : PEd X W a fa) (hb : PEd X W b fb) : PTd X W (.Compare a [op] [b] pos) (tB (eOp2 g fa fb)) := by
  obtain ⟨ta, p1, q1⟩ := ha.ex
  obtain ⟨tb, p2, q2⟩ := hb.ex
  refine ⟨_, pt_cmpR ho p1 p2 hm, fun M al σ H δ ω Q S h => ?_⟩
  refine tOp_ok (a := a) (b := b) hg q1 q2 M al σ H δ ω _ S (post_mono (fun x H1 h1 => ?_) (post_bind (rel := relE X.K M al) h))
  obtain ⟨d1, ω1, e1, S1, f1, r1, h1⟩ := h1
  cases r1 <;> first | exact ⟨_, rfl, h1 _ _ S1 f1 rfl⟩ | exact h1.elim
def tNot (ft : EvT) : EvT := fun δ ω => (ft δ ω).bind fun b ω1 => .ok (!b) ω1
theorem td_not (h : PTd X W e ft) : PTd X W (.UnaryOp .Not e pos) (tNot ft) := by
  obtain ⟨t, p1, q1⟩ := h.ex
  refine ⟨_, pt_not p1, fun M al σ H δ ω Q S h => ?_⟩
  refine q1 M al σ H δ ω _ S (post_mono (fun x H1 h1 => ?_) (post_bind (rel := relT) h))
  obtain ⟨d1, ω1, e1, S1, f1, rfl, h1⟩ := h1
  exact h1 _ _ S1 f1 rfl
def tAnd (ft fu : EvT) : EvT := fun δ ω => (ft δ ω).bind fun b ω1 => if b = true then fu δ ω1 else .ok false ω1
def tOr (ft fu : EvT) : EvT := fun δ ω => (ft δ ω).bind fun b ω1 => if b = true then .ok true ω1 else fu δ ω1
theorem wd_and1 (h : PTd X W a ft) : PWd X W (.BoolOp .And [a] pos) ft := by
  obtain ⟨t, p1, q1⟩ := h.ex
  exact ⟨_, pw_and1 p1, q1⟩
theorem wd_or1 (h : PTd X W a ft) : PWd X W (.BoolOp .Or [a] pos) ft := by
  obtain ⟨t, p1, q1⟩ := h.ex
  exact ⟨_, pw_or1 p1, q1⟩
theorem wd_and {rest : List Expr} (h : PTd X W a ft) (h2 : PWd X W (.BoolOp .And (b :: rest) pos) fu) : PWd X W (.BoolOp .And (a :: b :: rest) pos) (tAnd ft fu) := by
  obtain ⟨t, p1, q1⟩ := h.ex
  obtain ⟨t2, p2, q2⟩ := h2.ex
  refine ⟨_, pw_and p1 p2, fun M al σ H δ ω Q S h => ?_⟩
  refine q1 M al σ H δ ω _ S (post_mono (fun x H1 h1 => ?_) (post_bind (rel := relT) h))
  obtain ⟨d1, ω1, e1, S1, f1, rfl, h1⟩ := h1
  split at h1
  · rename_i e
    rw [if_pos e]
    exact q2 M al σ H1 δ ω1 _ S1 (post_from f1 h1)
  · rename_i e
    rw [if_neg e]
    exact h1 _ _ S1 f1 rfl
theorem wd_or {rest : List Expr} (h : PTd X W a ft) (h2 : PWd X W (.BoolOp .Or (b :: rest) pos) fu) : PWd X W (.BoolOp .Or (a :: b :: rest) pos) (tOr ft fu) := by
  obtain ⟨t, p1, q1⟩ := h.ex
  obtain ⟨t2, p2, q2⟩ := h2.ex
  refine ⟨_, pw_or p1 p2, fun M al σ H δ ω Q S h => ?_⟩
  refine q1 M al σ H δ ω _ S (post_mono (fun x H1 h1 => ?_) (post_bind (rel := relT) h))
  obtain ⟨d1, ω1, e1, S1, f1, rfl, h1⟩ := h1
  split at h1
  · rename_i e
    rw [if_pos e]
    exact h1 _ _ S1 f1 rfl
  · rename_i e
    rw [if_neg e]
    exact q2 M al σ H1 δ ω1 _ S1 (post_from f1 h1)
theorem td_w (h : PWd X W e ft) : PTd X W e ft := by
  obtain ⟨t, p1, q1⟩ := h.ex
  exact ⟨_, p1.pt, q1⟩
/-- and, or, not as values (all but the last are truth values) -/
def eAnd (fa fb : EvE) : EvE := fun δ ω => (tB fa δ ω).bind fun b ω1 => if b = true then fb δ ω1 else .ok (.bl false) ω1
def eOr (fa fb : EvE) : EvE := fun δ ω => (tB fa δ ω).bind fun b ω1 => if b = true then .ok (.bl true) ω1 else fb δ ω1
def eNot (fa : EvE) : EvE := fun δ ω => (tB fa δ ω).bind fun b ω1 => .ok (.bl (!b)) ω1
theorem tB_ok {ta : TE} (ha : ∀ M al σ H δ ω Q, DSt X.K W.P M al σ H δ ω → PostR X.K M al σ H δ (relE X.K M al) (fa δ ω) Q W → ta σ H Q) :
    ∀ M al σ H δ ω Q, DSt X.K W.P M al σ H δ ω → PostR X.K M al σ H δ relT (tB fa δ ω) Q W → ta σ H (fun x H1 => ∃ c, x = .bl c ∧ Q c H1) := fun M al σ H δ ω Q S h => by
  refine ha M al σ H δ ω _ S (post_mono (fun x H1 h1 => ?_) (post_bind (rel := relE X.K M al) h))
  obtain ⟨d1, ω1, e1, S1, f1, r1, h1⟩ := h1
  cases r1 <;> first | exact ⟨_, rfl, h1 _ _ S1 f1 rfl⟩ | exact h1.elim
theorem pd_one {op} (h : PEd X W a fa) : PEd X W (.BoolOp op [a] pos) fa := by
  obtain ⟨t, p1, q1⟩ := h.ex
  exact ⟨_, pe_one p1, q1⟩
theorem pd_and {rest : List Expr} (h : PEd X W a fa) (h2 : PEd X W (.BoolOp .And (b :: rest) pos) fb) : PEd X W (.BoolOp .And (a :: b :: rest) pos) (eAnd fa fb) := by
  obtain ⟨t, p1, q1⟩ := h.ex
  obtain ⟨t2, p2, q2⟩ := h2.ex
  refine ⟨_, pe_and p1 p2, fun M al σ H δ ω Q S h => ?_⟩
  refine tB_ok q1 M al σ H δ ω (fun c H1 => if c = true then t2 σ H1 Q else Q (.bl false) H1) S (post_mono (fun x H1 h1 => ?_) (post_bind (rel := relT) h))
  obtain ⟨d1, ω1, e1, S1, f1, rfl, h1⟩ := h1
  split at h1
  · rename_i e
    rw [if_pos e]
    exact q2 M al σ H1 δ ω1 _ S1 (post_from f1 h1)
  · rename_i e
    rw [if_neg e]
    exact h1 _ _ S1 f1 (.bl false)
theorem pd_or {rest : List Expr} (h : PEd X W a fa) (h2 : PEd X W (.BoolOp .Or (b :: rest) pos) fb) : PEd X W (.BoolOp .Or (a :: b :: rest) pos) (eOr fa fb) := by
  obtain ⟨t, p1, q1⟩ := h.ex
  obtain ⟨t2, p2, q2⟩ := h2.ex
  refine ⟨_, pe_or p1 p2, fun M al σ H δ ω Q S h => ?_⟩
  refine tB_ok q1 M al σ H δ ω (fun c H1 => if c = true then Q (.bl true) H1 else t2 σ H1 Q) S (post_mono (fun x H1 h1 => ?_) (post_bind (rel := relT) h))
  obtain ⟨d1, ω1, e1, S1, f1, rfl, h1⟩ := h1
  split at h1
  · rename_i e
    rw [if_pos e]
    exact h1 _ _ S1 f1 (.bl true)
  · rename_i e
    rw [if_neg e]
    exact q2 M al σ H1 δ ω1 _ S1 (post_from f1 h1)
theorem pd_not (h : PEd X W a fa) : PEd X W (.UnaryOp .Not a pos) (eNot fa) := by
  obtain ⟨t, p1, q1⟩ := h.ex
  refine ⟨_, pe_not p1, fun M al σ H δ ω Q S h => ?_⟩
  refine tB_ok q1 M al σ H δ ω (fun c H1 => Q (.bl (!c)) H1) S (post_mono (fun x H1 h1 => ?_) (post_bind (rel := relT) h))
  obtain ⟨d1, ω1, e1, S1, f1, rfl, h1⟩ := h1
  exact h1 _ _ S1 f1 (.bl _)
def eIf (ft : EvT) (fa fb : EvE) : EvE := fun δ ω => (ft δ ω).bind fun b ω1 => if b = true then fa δ ω1 else fb δ ω1
theorem pd_if {c : Expr} (h : PTd X W c ft) (ha : PEd X W a fa) (hb : PEd X W b fb) : PEd X W (.IfExp c a b pos) (eIf ft fa fb) := by
  obtain ⟨t, p1, q1⟩ := h.ex
  obtain ⟨t2, p2, q2⟩ := ha.ex
  obtain ⟨t3, p3, q3⟩ := hb.ex
  refine ⟨_, pe_ifExp p1 p2 p3, fun M al σ H δ ω Q S h => ?_⟩
  refine q1 M al σ H δ ω (fun c H1 => if c = true then t2 σ H1 Q else t3 σ H1 Q) S (post_mono (fun x H1 h1 => ?_) (post_bind (rel := relT) h))
  obtain ⟨d1, ω1, e1, S1, f1, rfl, h1⟩ := h1
  split at h1
  · rename_i e
    rw [if_pos e]
    exact q2 M al σ H1 δ ω1 _ S1 (post_from f1 h1)
  · rename_i e
    rw [if_neg e]
    exact q3 M al σ H1 δ ω1 _ S1 (post_from f1 h1)
end
end DL

namespace DL
open PySem PySem.Spec PyProof.Rows L2
section
variable {X : Cx} {W : Wt} {K : PySem.W.Frag} {M : Fm} {al : Nat → Option Addr} {σ : L2.St} {H : Hp} {δ : Sls}
variable {a b e c : Expr} {es : List Expr} {fa fb fc : EvE} {ft fu : EvT} {fs : EvA} {gs gt : EvS} {pos : Pos} {st : Stmt} {rest : List Stmt}
/-! ### statements -/
def sNext : EvS := fun δ ω => .ok (.nx δ) ω
def sSeq (g1 g2 : EvS) : EvS := fun δ ω => (g1 δ ω).bind fun fl ω1 => match fl with
  | .nx δ1 => g2 δ1 ω1
  | fl => .ok fl ω1
theorem posts_from {r : Rs Fl} {D : Ends} {H1 : Hp} {al1 : Nat → Option Addr} (f : FrS M al H H1) (x : AlExt H al al1) (h : PostS K M al H r D W) : PostS K M al1 H1 r D W := by
  cases r with
  | ok fl ω =>
    cases fl with
    | nx δ => exact fun al' σ' H' S f' y => h al' σ' H' S (f.trans x f') (x.trans f y)
    | bk δ => exact fun al' σ' H' S f' y => h al' σ' H' S (f.trans x f') (x.trans f y)
    | ct δ => exact fun al' σ' H' S f' y => h al' σ' H' S (f.trans x f') (x.trans f y)
    | rt d => exact h
  | err x ω => exact h
  | bad => exact h
theorem posts_seq {g2 : EvS} {u : TS} {D : Ends} {r : Rs Fl} (hu : ∀ M al σ H δ ω D, DSt K W.P M al σ H δ ω → PostS K M al H (g2 δ ω) D W → u D σ H)
    (h : PostS K M al H (r.bind fun fl ω1 => match fl with
      | .nx δ1 => g2 δ1 ω1
      | fl => .ok fl ω1) D W) : PostS K M al H r { D with nx := u D } W := by
  cases r with
  | ok fl ω =>
    cases fl with
    | nx δ => exact fun al' σ' H' S f' y => hu M al' σ' H' δ ω D S (posts_from f' y h)
    | bk δ => exact h
    | ct δ => exact h
    | rt d => exact h
  | err x ω => exact h
  | bad => exact h
theorem sd_nil : PSsd X W [] sNext := ⟨_, pss_nil, fun M al σ H δ ω D S h => h al σ H S (Fr.refl H) AlExt.refl⟩
theorem sd_cons (h1 : PSd X W st gs) (h2 : PSsd X W rest gt) : PSsd X W (st :: rest) (sSeq gs gt) := by
  obtain ⟨t, p1, q1⟩ := h1.ex
  obtain ⟨t2, p2, q2⟩ := h2.ex
  exact ⟨_, pss_cons p1 p2, fun M al σ H δ ω D S h => q1 M al σ H δ ω _ S (posts_seq q2 h)⟩
theorem sd_one (h1 : PSd X W st gs) : PSsd X W [st] gs := by
  obtain ⟨t, p1, q1⟩ := h1.ex
  exact ⟨_, pss_one p1, q1⟩
/-- from an expression to a statement -/
theorem posts_bind {α β : Type} {rel : Hp → β → α → Prop} {r : Rs α} {k : α → Om → Rs Fl} {D : Ends}
    (f0 : Fr M.Z M.H0 H) (h : PostS K M al H (r.bind k) D W) : PostR K M al σ H δ rel r (fun v H1 => ∃ a ω, r = .ok a ω ∧ DSt K W.P M al σ H1 δ ω ∧ Fr M.Z H H1 ∧ rel H1 v a ∧ PostS K M al H (k a ω) D W) W := by
  cases r with
  | ok a ω => exact fun v H' S f q => ⟨a, ω, rfl, S, f, q, h⟩
  | err x ω => exact fun cls dd H' f' g' x' => h cls dd H' (f0.trans f') g' (x'.less fun b hb _ => .inl hb)
  | bad => exact h
def sSet (i : Nat) (fa : EvE) : EvS := fun δ ω => (fa δ ω).bind fun d ω1 => .ok (.nx (δ.set i (.val d))) ω1
theorem sd_set {i : Nat} {x : Str} {pos' : Pos} (hN : X.N.Nodup) (hi : X.N[i]? = some x) (hx : Loc X.env.scope x) (he : PEd X W e fa) (hs : swapsWith e (some (.Name x pos')) pos.line X.env = pure false := by rfl) (hf : X.fn x = true ∨ X.env.scope.names.lookup x = some .local := by first | exact .inl rfl | exact .inr rfl | assumption) :
    PSd X W (.Assign [.Name x pos'] e pos) (sSet i fa) := by
  obtain ⟨t, p1, q1⟩ := he.ex
  refine ⟨_, ps_set (i := i) hN hi hx p1 hs hf, fun M al σ H δ ω D S h => ?_⟩
  refine q1 M al σ H δ ω _ S (post_mono (fun x H1 h1 => ?_) (posts_bind (rel := relE X.K M al) S.fr h))
  obtain ⟨d1, ω1, e1, S1, f1, r1, h1⟩ := h1
  exact h1 _ _ H1 (S1.set r1) f1.s AlExt.drop
/-- a, b = x, y -/
def sPar (i j : Nat) (fa fb : EvE) : EvS := fun δ ω => (fa δ ω).bind fun d ω1 => (fb δ ω1).bind fun d2 ω2 => .ok (.nx ((δ.set i (.val d)).set j (.val d2))) ω2
def sRet (fa : EvE) : EvS := fun δ ω => (fa δ ω).bind fun d ω1 => .ok (.rt d) ω1
theorem sd_ret (he : PEd X W e fa) : PSd X W (.Return (some e) pos) (sRet fa) := by
  obtain ⟨t, p1, q1⟩ := he.ex
  refine ⟨_, ps_ret p1, fun M al σ H δ ω D S h => ?_⟩
  refine q1 M al σ H δ ω _ S (post_mono (fun x H1 h1 => ?_) (posts_bind (rel := relE X.K M al) S.fr h))
  obtain ⟨d1, ω1, e1, S1, f1, r1, h1⟩ := h1
  exact h1 x H1 S1.fr S1.g (r1.less fun b hb _ => .inl hb)
def sExpr (fa : EvE) : EvS := fun δ ω => (fa δ ω).bind fun _ ω1 => .ok (.nx δ) ω1
theorem sd_expr (he : PEd X W e fa) (hs : swapsWith e none pos.line X.env = pure false := by rfl) : PSd X W (.Expr e pos) (sExpr fa) := by
  obtain ⟨t, p1, q1⟩ := he.ex
  refine ⟨_, ps_expr p1 hs, fun M al σ H δ ω D S h => ?_⟩
  refine q1 M al σ H δ ω _ S (post_mono (fun x H1 h1 => ?_) (posts_bind (rel := relE X.K M al) S.fr h))
  obtain ⟨d1, ω1, e1, S1, f1, r1, h1⟩ := h1
  exact h1 _ _ H1 S1 f1.s AlExt.refl
def sIf (ft : EvT) (g1 g2 : EvS) : EvS := fun δ ω => (ft δ ω).bind fun b ω1 => if b = true then g1 δ ω1 else g2 δ ω1
theorem sd_if {st1 st2 : List Stmt} (h : PTd X W c ft) (h1 : PSsd X W st1 gs) (h2 : PSsd X W st2 gt) : PSd X W (.If c st1 st2 pos) (sIf ft gs gt) := by
  obtain ⟨t, p1, q1⟩ := h.ex
  obtain ⟨t2, p2, q2⟩ := h1.ex
  obtain ⟨t3, p3, q3⟩ := h2.ex
  refine ⟨_, ps_if p1 p2 p3, fun M al σ H δ ω D S h => ?_⟩
  refine q1 M al σ H δ ω (fun b H1 => if b = true then t2 D σ H1 else t3 D σ H1) S (post_mono (fun x H1 h1 => ?_) (posts_bind (rel := relT) S.fr h))
  obtain ⟨d1, ω1, e1, S1, f1, rfl, h1⟩ := h1
  split at h1
  · rename_i e
    rw [if_pos e]
    exact q2 M al σ H1 δ ω1 _ S1 (posts_from f1.s AlExt.refl h1)
  · rename_i e
    rw [if_neg e]
    exact q3 M al σ H1 δ ω1 _ S1 (posts_from f1.s AlExt.refl h1)
def sBreak : EvS := fun δ ω => .ok (.bk δ) ω
def sCont : EvS := fun δ ω => .ok (.ct δ) ω
theorem sd_break : PSd X W (.Break pos) sBreak := ⟨_, ps_break, fun M al σ H δ ω D S h => h al σ H S (Fr.refl H) AlExt.refl⟩
theorem sd_cont : PSd X W (.Continue pos) sCont := ⟨_, ps_continue, fun M al σ H δ ω D S h => h al σ H S (Fr.refl H) AlExt.refl⟩
theorem sd_pass : PSd X W (.Pass pos) sNext := ⟨_, ps_pass, fun M al σ H δ ω D S h => h al σ H S (Fr.refl H) AlExt.refl⟩
theorem sd_doc {x : Str} {j pos'} : PSd X W (.Expr (.Constant (.str x) j pos) pos') sNext := ⟨_, ps_doc, fun M al σ H δ ω D S h => h al σ H S (Fr.refl H) AlExt.refl⟩

/-! ### targets -/
abbrev EvG := D → Sls → Om → Option Sls
abbrev alW (al : Nat → Option Addr) (vs : List Nat) : Nat → Option Addr := fun j => if j ∈ vs then none else al j
theorem alW_sub {al : Nat → Option Addr} {vs : List Nat} {j : Nat} {a : Addr} (h : alW al vs j = some a) : al j = some a ∧ j ∉ vs := by
  by_cases e : j ∈ vs
  · simp only [alW, if_pos e] at h; cases h
  · simp only [alW, if_neg e] at h; exact ⟨h, e⟩
theorem alW_twice (al : Nat → Option Addr) (vs : List Nat) : alW (alW al vs) vs = alW al vs := by
  funext j
  by_cases e : j ∈ vs
  · simp only [alW, if_pos e]
  · simp only [alW, if_neg e]
theorem alW_one (al : Nat → Option Addr) (i : Nat) : alW al [i] = fun j => if j = i then none else al j := by
  funext j
  by_cases e : j = i
  · simp [alW, e]
  · simp [alW, e]
abbrev GOk (K : PySem.W.Frag) (P : PP) (vs : List Nat) (t : TG) (g : EvG) : Prop := ∀ M al σ H δ ω v d δ' (Q : L2.St → Hp → Prop), DSt K P M al σ H δ ω → Rep K M.sa (NA M.N al) H v d → g d δ ω = some δ' →
  (∀ σ', DSt K P M (alW al vs) σ' H δ' ω → σ'.length = σ.length → (∀ k, k ∉ vs → σ'[k]? = σ[k]?) → Q σ' H) → t v σ H Q
structure PGd (X : Cx) (P : PP) (tg : Expr) (vs : List Nat) (g : EvG) : Prop where
  ex : ∃ t, PG X tg t ∧ GOk X.K P vs t g
def gdName (i : Nat) : EvG := fun d δ _ => some (δ.set i (.val d))
theorem gd_name {P : PP} {i : Nat} {x : Str} (hN : X.N.Nodup) (hi : X.N[i]? = some x) (hx : Loc X.env.scope x) (hf : X.fn x = true ∨ X.env.scope.names.lookup x = some .local := by first | exact .inl rfl | exact .inr rfl | assumption) : PGd X P (.Name x pos) [i] (gdName i) := by
  refine ⟨_, pg_name hN hi hx hf, fun M al σ H δ ω v d δ' Q S r hg k => ?_⟩
  cases hg
  exact k _ (by rw [alW_one]; exact S.set r) (List.length_set ..) fun j hj => List.getElem?_set_ne (fun e => hj (by simp [e]))

/-! ### what is walked -/
/-- the iterator J yields the data ds, whatever happens but to what the data is made of -/
def ItD (K : PySem.W.Frag) (sa : Addr) (N : Addr → Prop) (J : It) (H : Hp) (ds : List D) : Prop :=
  ds.length ≤ sizeLine ∧ ∀ N' Z : Addr → Prop, (∀ b, N' b → Tr H b → N b) → (∀ b, Z b → N b) → ∀ i H', Fr Z H H' →
    (i < ds.length → J.go i H' ∧ ∀ x H'', J.yld i H' x H'' → Same H' H'' ∧ ∃ d, ds[i]? = some d ∧ Rep K sa N' H'' x d) ∧ (ds.length ≤ i → J.stop i H')
/-- the same, but only as long as nothing but Z's objects changes -/
def ItC (K : PySem.W.Frag) (sa : Addr) (N Z : Addr → Prop) (J : It) (H : Hp) (ds : List D) : Prop :=
  ds.length ≤ sizeLine ∧ ∀ N' : Addr → Prop, (∀ b, N' b → Tr H b → N b) → ∀ i H', Fr Z H H' →
    (i < ds.length → J.go i H' ∧ ∀ x H'', J.yld i H' x H'' → Same H' H'' ∧ ∃ d, ds[i]? = some d ∧ Rep K sa N' H'' x d) ∧ (ds.length ≤ i → J.stop i H')
theorem ItD.toC {K : PySem.W.Frag} {sa : Addr} {N Z : Addr → Prop} {J : It} {H : Hp} {ds : List D} (h : ItD K sa N J H ds) (hz : ∀ b, Z b → N b) : ItC K sa N Z J H ds := ⟨h.1, fun N' hn i H' f => h.2 N' Z hn hz i H' f⟩
abbrev EvI := Sls → Om → Rs (List D)
structure PId (X : Cx) (W : Wt) (tg e : Expr) (f : EvI) : Prop where
  ex : ∃ t, PI X tg e t ∧ ∀ M al σ H δ ω (R : It → Hp → Prop), DSt X.K W.P M al σ H δ ω → PostR X.K M al σ H δ (fun H1 J ds => ItD X.K M.sa (NA M.N al) J H1 ds) (f δ ω) (fun J H1 => R J H1) W → t σ H R
structure PIc (X : Cx) (W : Wt) (tg e : Expr) (f : EvI) : Prop where
  ex : ∃ t, PI X tg e t ∧ ∀ M al σ H δ ω (R : It → Hp → Prop), DSt X.K W.P M al σ H δ ω → PostR X.K M al σ H δ (fun H1 J ds => ItC X.K M.sa (NA M.N al) M.Z J H1 ds) (f δ ω) (fun J H1 => R J H1) W → t σ H R
theorem SqT.eqFr {Z : Addr → Prop} {H H' : Hp} {a : Addr} {xs : List V} (f : Fr Z H H') (h : SqT K H a xs) : SqT K H' a xs := f.sqT h
/-- the items of a tuple or a list -/
def iSeq (fa : EvE) : EvI := fun δ ω => (fa δ ω).bind fun d ω1 => match d with
  | .tup ds => .ok ds ω1
  | _ => .bad
def iLst (fa : EvE) : EvI := fun δ ω => (fa δ ω).bind fun d ω1 => match d with
  | .lst ds => .ok ds ω1
  | .scr ns => .ok (ns.map .int) ω1
  | _ => .bad
theorem Rep.onto {sa : Addr} {N N' Z : Addr → Prop} {H' : Hp} {v : V} {d : D} (r : Rep K sa N H v d) (hn : ∀ b, N' b → Tr H b → N b) (hz : ∀ b, Z b → N b) (f : Fr Z H H') : Rep K sa N' H' v d :=
  ((r.less (N' := fun b => N b ∨ N' b) fun b hb e => hb.elim id fun h => hn b h e).mono f fun b z => .inl (hz b z)).less fun b hb _ => .inr hb
theorem itD_tup {sa : Addr} {N : Addr → Prop} {a : Addr} {xs : List V} {ds : List D} (h : SqT K H a xs) (hl : xs.length ≤ sizeLine) (r : Reps K sa N H xs ds) : ItD K sa N (Itt K a) H ds := ⟨by rw [← r.len]; exact hl, fun N' Z hn hz i H' f => by
  have h' := f.sqT h
  refine ⟨fun hi => ?_, fun hi => ⟨xs, h', by rw [r.len]; exact hi⟩⟩
  have hx : i < xs.length := by rw [r.len]; exact hi
  refine ⟨⟨xs, xs[i], h', List.getElem?_eq_getElem hx⟩, fun x H'' y => ?_⟩
  obtain ⟨rfl, y⟩ := y
  obtain ⟨d, hd, rd⟩ := r.get (y xs h')
  · exact ⟨Same.refl _, d, hd, rd.onto hn hz f⟩⟩
theorem id_tup {tg : Expr} (h : PEd X W e fa) : PId X W tg e (iSeq fa) := by
  obtain ⟨t, p1, q1⟩ := h.ex
  refine ⟨_, pi_tup p1, fun M al σ H δ ω R S h => ?_⟩
  refine q1 M al σ H δ ω _ S (post_mono (fun x H1 h1 => ?_) (post_bind (rel := relE X.K M al) h))
  obtain ⟨d1, ω1, e1, S1, f1, r1, h1⟩ := h1
  cases r1 with
  | tup h l r => exact ⟨_, rfl, ⟨_, h⟩, h1 _ _ S1 f1 (itD_tup h l r)⟩
  | _ => exact h1.elim
theorem ints_reps {sa : Addr} {N : Addr → Prop} : ∀ ns : List Int, Reps K sa N H (ns.map V.int) (ns.map D.int)
  | [] => .nil
  | n :: r => .cons (.int n) (ints_reps r)
theorem itD_lst {sa : Addr} {N : Addr → Prop} {a : Addr} {xs : List V} {ds : List D} (h : ∀ (Z : Addr → Prop) H', (∀ b, Z b → N b) → Fr Z H H' → SqL K H' a xs) (hl : xs.length ≤ sizeLine) (r : Reps K sa N H xs ds) : ItD K sa N (Itl K a) H ds := ⟨by rw [← r.len]; exact hl, fun N' Z hn hz i H' f => by
  have h' := h Z H' hz f
  refine ⟨fun hi => ?_, fun hi => ⟨xs, h', by rw [r.len]; exact hi⟩⟩
  have hx : i < xs.length := by rw [r.len]; exact hi
  refine ⟨⟨xs, xs[i], h', List.getElem?_eq_getElem hx⟩, fun x H'' y => ?_⟩
  obtain ⟨rfl, y⟩ := y
  obtain ⟨d, hd, rd⟩ := r.get (y xs h')
  · exact ⟨Same.refl _, d, hd, rd.onto hn hz f⟩⟩
theorem id_lst {tg : Expr} (h : PEd X W e fa) : PId X W tg e (iLst fa) := by
  obtain ⟨t, p1, q1⟩ := h.ex
  refine ⟨_, pi_list p1, fun M al σ H δ ω R S h => ?_⟩
  refine q1 M al σ H δ ω _ S (post_mono (fun x H1 h1 => ?_) (post_bind (rel := relE X.K M al) h))
  obtain ⟨d1, ω1, e1, S1, f1, r1, h1⟩ := h1
  cases r1 with
  | lst h n l r => exact ⟨_, rfl, ⟨_, SqL.of h⟩, h1 _ _ S1 f1 (itD_lst (fun Z H' hz f => SqL.of (f.keep _ _ h fun z => n (hz _ z))) l r)⟩
  | scr h l => exact ⟨_, rfl, ⟨_, h.sq⟩, h1 _ _ S1 f1 (itD_lst (fun Z H' hz f => (f.sqF h).sq) (by rw [List.length_map]; exact l) (ints_reps _))⟩
  | scrL h n l => exact ⟨_, rfl, ⟨_, SqL.of h⟩, h1 _ _ S1 f1 (itD_lst (fun Z H' hz f => SqL.of (f.keep _ _ h fun z => n (hz _ z))) (by rw [List.length_map]; exact l) (ints_reps _))⟩
  | _ => exact h1.elim
/-- range(n) -/
def iRange (fs : EvA) : EvI := fun δ ω => (fs δ ω).bind fun ds ω1 => match ds with
  | [.int n] => if -(2 ^ 62) ≤ n ∧ n ≤ (sizeLine : Nat) then .ok ((List.range n.toNat).map fun (k : Nat) => D.int (k : Nat)) ω1 else .bad
  | _ => .bad
theorem itD_range {sa : Addr} {N : Addr → Prop} {n : Nat} (hl : n ≤ sizeLine) : ItD K sa N (Itr 0 n) H ((List.range n).map fun (k : Nat) => D.int (k : Nat)) := ⟨by simpa using hl, fun N' Z hn hz i H' f => by
  refine ⟨fun hi => ?_, fun hi => (show n ≤ i by simpa using hi)⟩
  have hi' : i < n := by simpa using hi
  refine ⟨hi', fun x H'' y => ?_⟩
  obtain ⟨rfl, rfl⟩ := y
  refine ⟨Same.refl _, D.int (i : Nat), ?_, ?_⟩
  · rw [List.getElem?_map, List.getElem?_range hi']
    rfl
  · rw [Int.zero_add]
    exact .int _⟩
theorem id_range {tg : Expr} {p : Pos} (hm : X.mg "range" = none) (h : PAd X W [a] fs) (hg : Gl X "range" := by rfl) (hs : starEach [a] X.env = [(false, eval a X.env)] := by rfl) : PId X W tg (.Call (.Name "range" p) [a] [] pos) (iRange fs) := by
  obtain ⟨t, p1, q1⟩ := h.ex
  refine ⟨_, pi_range1 hg hm p1 hs, fun M al σ H δ ω R S h => ?_⟩
  refine q1 M al σ H δ ω _ S (post_mono (fun x H1 h1 => ?_) (post_bind (rel := relA X.K M al) h))
  obtain ⟨d1, ω1, e1, S1, f1, r1, h1⟩ := h1
  split at h1
  · rename_i n
    cases r1 with
    | cons r rn =>
      cases rn
      cases r
      split at h1
      · rename_i hn
        exact ⟨n, rfl, hn.1, by have := hn.2; rw [sizeLine_eq] at this; omega, h1 _ _ S1 f1 (itD_range (by have := hn.2; omega))⟩
      · exact h1.elim
  · exact h1.elim
/-! ### for -/
def loopF (g : EvG) (body : EvS) : List D → EvS
  | [] => sNext
  | d :: ds => fun δ ω => match g d δ ω with
    | none => .bad
    | some δ1 => (body δ1 ω).bind fun fl ω2 => match fl with
      | .nx δ2 => loopF g body ds δ2 ω2
      | .ct δ2 => loopF g body ds δ2 ω2
      | .bk δ2 => .ok (.nx δ2) ω2
      | .rt d => .ok (.rt d) ω2
def sFor (f : EvI) (g : EvG) (body : EvS) : EvS := fun δ ω => (f δ ω).bind fun ds ω1 => loopF g body ds δ ω1
theorem for_ok {g : TG} {fg : EvG} {tb : TS} {fb : EvS} {J : It} {ds : List D} {D : Ends} {ω : Om} {N : Addr → Prop}
    {vs : List Nat} (hg : GOk K W.P vs g fg)
    (hb : ∀ M al σ H δ ω D, DSt K W.P M al σ H δ ω → PostS K M al H (fb δ ω) D W → tb D σ H)
    (S : DSt K W.P M al σ H δ ω) (hJ : ItD K M.sa (NA M.N al) J H ds) (h : PostS K M al H (loopF fg fb ds δ ω) D W) :
    ∃ Wn : Nat → Nat → L2.St → Hp → Prop, (∃ m, Wn 0 m σ H) ∧ ∀ i m σ' H', Wn i m σ' H' → (J.stop i H' ∧ D.nx σ' H') ∨ (J.go i H' ∧ ∃ Nx : L2.St → Hp → Prop, (∀ σ'' H'', Nx σ'' H'' → ∃ m', m' < m ∧ Wn (i + 1) m' σ'' H'') ∧
      ∀ x H'', J.yld i H' x H'' → g x σ' H'' fun σ2 H2 => tb { D with nx := Nx, ct := Nx, bk := D.nx } σ2 H2) := by
  refine ⟨fun i m σ' H' => m = ds.length - i ∧ i ≤ ds.length ∧ ∃ al' δ' ω', DSt K W.P M al' σ' H' δ' ω' ∧ FrS M al H H' ∧ AlExt H al al' ∧ PostS K M al' H' (loopF fg fb (ds.drop i) δ' ω') D W, ⟨ds.length, by simp, Nat.zero_le _, al, δ, ω, S, Fr.refl H, AlExt.refl, h⟩, ?_⟩
  rintro i m σ1 H1 ⟨rfl, hi, al1, δ1, ω1, S1, f1, x1, h1⟩
  have hN : ∀ b, NA M.N al1 b → Tr H b → NA M.N al b := fun b hb ho => by
    rcases hb with hb | ⟨j, hb⟩
    · exact .inl hb
    · rcases x1 j b hb with ⟨k, hk⟩ | hk
      · exact .inr ⟨k, hk⟩
      · exact absurd ho hk
  obtain ⟨go, stop⟩ := hJ.2 (NA M.N al1) (fun b => M.Z b ∨ ∃ i, al i = some b) hN (fun b z => z.elim (fun z => .inl (S.zn b z)) .inr) i H1 f1
  by_cases hlt : i < ds.length
  · obtain ⟨go, yl⟩ := go hlt
    rw [List.drop_eq_getElem_cons hlt] at h1
    refine .inr ⟨go, fun σ' H' => ∃ al' δ' ω', DSt K W.P M al' σ' H' δ' ω' ∧ FrS M al H H' ∧ AlExt H al al' ∧ PostS K M al' H' (loopF fg fb (ds.drop (i + 1)) δ' ω') D W, fun σ'' H'' z => ⟨ds.length - (i + 1), by omega, rfl, hlt, z⟩, fun x H2 y => ?_⟩
    obtain ⟨sm, d, hd, rd⟩ := yl x H2 y
    have e : ds[i] = d := by
      rw [List.getElem?_eq_getElem hlt] at hd
      exact Option.some.inj hd
    subst e
    have S2 : DSt K W.P M al1 σ1 H2 δ1 ω1 := S1.same sm
    have f2 : FrS M al H H2 := Fr.trans f1 (.same sm)
    unfold loopF at h1
    cases eg : fg ds[i] δ1 ω1 with
    | none => rw [eg] at h1; exact (show False from h1).elim
    | some δ2 =>
      rw [eg] at h1
      dsimp only at h1
      refine hg M al1 σ1 H2 δ1 ω1 x _ δ2 _ S2 rd eg fun σ2 S3 _ _ => ?_
      have x2 : AlExt H2 al1 (alW al1 vs) := fun j a q => .inl ⟨j, (alW_sub q).1⟩
      have x12 : AlExt H al (alW al1 vs) := x1.trans f2 x2
      have x02 : AlExt H1 al1 (alW al1 vs) := fun j a q => .inl ⟨j, (alW_sub q).1⟩
      refine hb M (alW al1 vs) σ2 H2 δ2 ω1 _ S3 ?_
      cases er : fb δ2 ω1 with
      | ok fl ω3 =>
        rw [er] at h1
        cases fl with
        | nx δ3 => exact fun al3 σ3 H3 S4 f3 x3 => ⟨al3, δ3, ω3, S4, f2.trans x12 f3, x12.trans f2 x3, posts_from (FrS.trans (al1 := alW al1 vs) (Fr.same sm) x02 f3) (x02.trans (Z := fun _ => False) (.same sm) x3) h1⟩
        | ct δ3 => exact fun al3 σ3 H3 S4 f3 x3 => ⟨al3, δ3, ω3, S4, f2.trans x12 f3, x12.trans f2 x3, posts_from (FrS.trans (al1 := alW al1 vs) (Fr.same sm) x02 f3) (x02.trans (Z := fun _ => False) (.same sm) x3) h1⟩
        | bk δ3 => exact fun al3 σ3 H3 S4 f3 x3 => h1 al3 σ3 H3 S4 (FrS.trans (al1 := alW al1 vs) (Fr.same sm) x02 f3) (x02.trans (Z := fun _ => False) (.same sm) x3)
        | rt d => exact h1
      | err z ω3 => rw [er] at h1; exact h1
      | bad => rw [er] at h1; exact h1
  · have e : i = ds.length := by omega
    subst e
    rw [List.drop_length] at h1
    exact .inl ⟨stop (Nat.le_refl _), h1 al1 σ1 H1 S1 (Fr.refl _) AlExt.refl⟩
theorem sd_for {iter tg : Expr} {body : List Stmt} {fi : EvI} {g : EvG} {fb : EvS} (hp : PassesOwn (model X.prog X.w) X.A X.env X.xe) (hc : X.calm = true) {vs : List Nat} (hi : PId X W tg iter fi) (hg : PGd X W.P tg vs g) (hb : PSsd X W body fb)
    (hs : ∀ x, foldedSetIterable iter X.env x = pure x := by intro _; rfl) : PSd X W (.For tg iter body [] pos) (sFor fi g fb) := by
  obtain ⟨t, p1, q1⟩ := hi.ex
  obtain ⟨t2, p2, q2⟩ := hg.ex
  obtain ⟨t3, p3, q3⟩ := hb.ex
  refine ⟨_, ps_for hp hc p1 p2 p3 hs, fun M al σ H δ ω D S h => ?_⟩
  refine q1 M al σ H δ ω _ S (post_mono (fun J H1 h1 => ?_) (posts_bind (rel := fun H1 J ds => ItD X.K M.sa (NA M.N al) J H1 ds) S.fr h))
  obtain ⟨ds, ω1, e1, S1, f1, r1, h1⟩ := h1
  exact for_ok q2 q3 S1 r1 (posts_from f1.s AlExt.refl h1) (N := M.N)
/-! ### a def -/
theorem fn_ok {Pr : Program} {w : World} {P : PP} {mg : Str → Option Value} {base : Heap} {x qual : Str} {std : Stmt} {f : Addr} {fd : FuncData} {N ps : List Str} {k n : Nat} {g : EvS} (F : Fun K x qual std f fd) (sc : FnScope N ps (defScope std)) (hn : ps.length = n) (hN : N.length = n + (N.length - n))
    (hb : ∀ (cdv : Value) (A : Around) (outer : List Env) (s : Shared) (H : Hp) (E : XK), Room k (A.deeper (envOfC qual (defScope std) s.heap.objs.size f cdv)) → Takes (cxOf (L2.CX Pr w) Pr w K mg base N qual (defScope std) f cdv A outer s H E) (fun cls d _ H => E cls d H) →
      PSsd (cxOf (L2.CX Pr w) Pr w K mg base N qual (defScope std) f cdv A outer s H E) ⟨E, P⟩ (defBody std) g) : FnOk Pr w K mg base (L2.CX Pr w) (k + 1) f fd ps (spD K P n (runB N.length g)) := by
  refine F.okX sc (fun vs H Q E h => by rw [h.1, hn]) fun cdv A outer s H vs Q E hr h => ?_
  obtain ⟨t, p1, q1⟩ := (hb cdv A outer s H E hr (takes_of rfl rfl rfl rfl)).ex
  obtain ⟨hl, M, ds, ω, rfl, pp, zn, gm, gG, nt, r, h⟩ := h
  refine ⟨t, p1, q1 M (fun _ => none) _ _ (ds.map .val ++ List.replicate (N.length - ds.length) .emp) ω _ ⟨pp, zn, gm, gG, nt, Fr.refl _, ?_, fun i hi => ?_, fun i j a z => (by cases z), fun i a z => (by cases z)⟩ ?_⟩
  · unfold L2.start
    simp only [List.length_append, List.length_map, List.length_replicate, r.len]
  · unfold L2.start
    have len := r.len
    by_cases hlt : i < ds.length
    · have hv : i < vs.length := by omega
      rw [List.getElem?_append_left (by simpa using hv), List.getElem?_append_left (by simpa using hlt), List.getElem?_map, List.getElem?_map]
      cases e : vs[i]? with
      | none => rw [List.getElem?_eq_none_iff] at e; omega
      | some v =>
        obtain ⟨d, hd, rd⟩ := r.get e
        rw [hd]
        exact .val (rd.less fun b hb _ => by
          rcases hb with hb | ⟨_, hb⟩
          · exact hb
          · cases hb)
    · have hv : vs.length ≤ i := by omega
      have e : ((ds.map Sl.val ++ List.replicate (N.length - ds.length) Sl.emp)[i]?).getD .emp = Sl.emp := by
        rw [List.getElem?_append_right (by simp; omega), List.getElem?_replicate]
        split <;> rfl
      rw [e]
      exact .emp
  · unfold runB at h
    cases e : g (ds.map .val ++ List.replicate (N.length - ds.length) .emp) ω with
    | ok fl ω' =>
      rw [e] at h
      cases fl with
      | nx δ => exact fun al' σ' H' S f _ => h .non H' S.fr S.g .non
      | rt d => exact fun v H' f g r => h v H' f g r
      | bk δ => exact h.elim
      | ct δ => exact h.elim
    | err z ω' => rw [e] at h; exact h
    | bad => rw [e] at h; exact h.elim
end
end DL

namespace DL
open PySem PySem.Spec PyProof.Rows L2
section
variable {X : Cx} {W : Wt} {P : PP} {K : PySem.W.Frag} {M : Fm} {al : Nat → Option Addr} {σ : L2.St} {H : Hp} {δ : Sls} {ω : Om}
variable {a b e c : Expr} {es : List Expr} {fa fb fc : EvE} {ft fu : EvT} {fs : EvA} {gs gt : EvS} {pos : Pos} {st : Stmt} {rest : List Stmt}
/-! ### comprehensions -/
def wipeD (δ : Sls) : List Nat → Sls
  | [] => δ
  | v :: vs => (wipeD δ vs).set v .emp
theorem wipeD_length (δ : Sls) : ∀ vs : List Nat, (wipeD δ vs).length = δ.length
  | [] => rfl
  | v :: vs => by unfold wipeD; rw [List.length_set, wipeD_length δ vs]
theorem wipeD_in {δ : Sls} {i : Nat} : ∀ {vs : List Nat}, i ∈ vs → ((wipeD δ vs)[i]?).getD .emp = .emp
  | v :: vs, h => by
    unfold wipeD
    by_cases e : v = i
    · subst e
      by_cases hv : v < (wipeD δ vs).length
      · rw [List.getElem?_set_self hv]; rfl
      · rw [List.getElem?_eq_none (by simpa using hv)]; rfl
    · rw [List.getElem?_set_ne e]
      exact wipeD_in ((List.mem_cons.mp h).resolve_left (Ne.symm e))
theorem wipeD_out {δ : Sls} {i : Nat} : ∀ {vs : List Nat}, i ∉ vs → (wipeD δ vs)[i]? = δ[i]?
  | [], _ => rfl
  | v :: vs, h => by
    unfold wipeD
    have h' : i ≠ v ∧ i ∉ vs := by simpa using h
    rw [List.getElem?_set_ne (Ne.symm h'.1)]
    exact wipeD_out h'.2
theorem wipe_outS {σ : L2.St} {i : Nat} : ∀ {vs : List Nat}, i ∉ vs → (wipe σ vs)[i]? = σ[i]?
  | [], _ => rfl
  | v :: vs, h => by
    unfold wipe
    have h' : i ≠ v ∧ i ∉ vs := by simpa using h
    rw [List.getElem?_set_ne (Ne.symm h'.1)]
    exact wipe_outS h'.2
theorem wipe_inS {σ : L2.St} {i : Nat} (hi : i < σ.length) : ∀ {vs : List Nat}, i ∈ vs → (wipe σ vs)[i]? = some none
  | v :: vs, h => by
    unfold wipe
    by_cases e : v = i
    · subst e
      rw [List.getElem?_set_self (by rw [wipe_length]; exact hi)]
    · rw [List.getElem?_set_ne e]
      exact wipe_inS hi ((List.mem_cons.mp h).resolve_left (Ne.symm e))
/-- what differs only at vs is wiped alike -/
theorem wipe_eq {σ σ' : L2.St} {vs : List Nat} (hl : σ'.length = σ.length) (h : ∀ k, k ∉ vs → σ'[k]? = σ[k]?) : wipe σ' vs = wipe σ vs := by
  refine List.ext_getElem? fun k => ?_
  by_cases hk : k < σ.length
  · by_cases hv : k ∈ vs
    · rw [wipe_inS hk hv, wipe_inS (by rw [hl]; exact hk) hv]
    · rw [wipe_outS hv, wipe_outS hv, h k hv]
  · rw [List.getElem?_eq_none (by rw [wipe_length]; omega), List.getElem?_eq_none (by rw [wipe_length]; omega)]
theorem wipe_twice (σ : L2.St) (vs : List Nat) : wipe (wipe σ vs) vs = wipe σ vs := wipe_eq (wipe_length σ vs) fun k hk => wipe_outS hk
/-- within a comprehension: its list at L (and the lists of slots that its names hide) are not for data -/
abbrev Fm.cmp (M : Fm) (al : Nat → Option Addr) (vs : List Nat) (L : Addr) : Fm := { M with N := fun b => M.N b ∨ b = L ∨ ∃ i, i ∈ vs ∧ al i = some b }
theorem na_cmp {vs : List Nat} {L : Addr} (b : Addr) : NA (M.cmp al vs L).N (alW al vs) b ↔ (NA M.N al b ∨ b = L) := by
  constructor
  · rintro ((h | h | ⟨i, _, h⟩) | ⟨i, h⟩)
    · exact .inl (.inl h)
    · exact .inr h
    · exact .inl (.inr ⟨i, h⟩)
    · by_cases e : i ∈ vs
      · simp only [alW, if_pos e] at h; cases h
      · simp only [alW, if_neg e] at h; exact .inl (.inr ⟨i, h⟩)
  · rintro ((h | ⟨i, h⟩) | h)
    · exact .inl (.inl h)
    · by_cases e : i ∈ vs
      · exact .inl (.inr (.inr ⟨i, e, h⟩))
      · exact .inr ⟨i, by simp only [alW, if_neg e]; exact h⟩
    · exact .inl (.inr (.inl h))
theorem DSt.cmp (S : DSt K P M al σ H δ ω) {L : Addr} {vs : List Nat} (hL : H L = none) {xs : List V} : DSt K P (M.cmp al vs L) (alW al vs) (wipe σ vs) (upd H L (.lst xs)) (wipeD δ vs) ω where
  pp := S.pp
  zn := fun b z => .inl (S.zn b z)
  gm := S.gm
  g := S.gm.same (same_upd hL) S.g
  nt := fun b hb => by
    rcases hb with hb | rfl | ⟨i, _, hb⟩
    · obtain ⟨o, e, n⟩ := S.nt b hb
      exact ⟨o, same_upd hL _ _ e, n⟩
    · exact ⟨_, upd_same, trivial⟩
    · obtain ⟨xs, e⟩ := S.own_there hb
      exact ⟨_, same_upd hL _ _ e, trivial⟩
  fr := S.fr.trans (.same (same_upd hL))
  len := by rw [wipe_length, wipeD_length]; exact S.len
  sl := fun i hi => by
    rw [wipeD_length] at hi
    by_cases hv : i ∈ vs
    · rw [wipeD_in hv]
      simp only [alW, if_pos hv]
      exact .emp
    · rw [wipeD_out hv, wipe_outS hv]
      simp only [alW, if_neg hv]
      have q := (S.sl i hi).mono (Fr.same (Z := fun _ => False) (same_upd (o := .lst xs) hL)) (fun _ _ z => z) (fun _ z => z.elim)
      have hle : ∀ b, NA (M.cmp al vs L).N (alW al vs) b → Tr H b → NA M.N al b := fun b hb ⟨o, ho, _⟩ => by
        rcases na_cmp b |>.mp hb with h | rfl
        · exact h
        · rw [hL] at ho; cases ho
      have q0 := S.sl i hi
      generalize (σ[i]?).getD none = ov at q0 ⊢
      generalize (δ[i]?).getD .emp = x at q0 ⊢
      generalize al i = w at q0 ⊢
      cases q0 with
      | emp => exact .emp
      | val r => exact .val ((r.less hle).mono (Fr.same (Z := fun _ => False) (same_upd hL)) fun _ z => z.elim)
      | own h l r => exact .own (same_upd hL _ _ h) l ((r.less hle).mono (Fr.same (Z := fun _ => False) (same_upd hL)) fun _ z => z.elim)
  inj := fun i j x h1 h2 => by
    by_cases e1 : i ∈ vs
    · simp only [alW, if_pos e1] at h1; cases h1
    · by_cases e2 : j ∈ vs
      · simp only [alW, if_pos e2] at h2; cases h2
      · simp only [alW, if_neg e1] at h1
        simp only [alW, if_neg e2] at h2
        exact S.inj i j x h1 h2
  fresh := fun i x h => by
    by_cases e1 : i ∈ vs
    · simp only [alW, if_pos e1] at h; cases h
    · simp only [alW, if_neg e1] at h
      obtain ⟨f1, f2, f3⟩ := S.fresh i x h
      refine ⟨f1, ?_, by rw [wipeD_length]; exact f3⟩
      rintro (z | rfl | ⟨j, hj, z⟩)
      · exact f2 z
      · obtain ⟨ys, e⟩ := S.own_there h
        rw [hL] at e; cases e
      · have e := S.inj i j x h z
        rw [e] at e1
        exact e1 hj
/-- the shut list at L is written -/
theorem DSt.wr (S : DSt K P M al σ H δ ω) {L : Addr} {xs ys : List V} (hL : H L = some (.lst xs)) (hN : M.N L) (hZ : ¬ M.Z L) (h0 : ¬ Tr M.H0 L) : DSt K P M al σ (upd H L (.lst ys)) δ ω := by
  have fr : Fr (fun b => M.Z b ∨ b = L) H (upd H L (.lst ys)) := ⟨fun b o e k => by
      by_cases hb : b = L
      · subst hb
        rw [hL] at e; cases e
        exact absurd (.inr rfl) k
      · rw [upd_ne hb]; exact e, fun b ⟨o, e, n⟩ => by
      by_cases hb : b = L
      · subst hb; exact ⟨_, upd_same, trivial⟩
      · exact ⟨o, by rw [upd_ne hb]; exact e, n⟩⟩
  have hz : ∀ b, (M.Z b ∨ b = L) → NA M.N al b := fun b hb => by
    rcases hb with hb | rfl
    · exact .inl (S.zn b hb)
    · exact .inl hN
  refine ⟨S.pp, S.zn, S.gm, S.gm _ _ _ (fun b o e k => ?_) S.g, fun b hb => ?_, ⟨fun b o e k => ?_, fun b e => ?_⟩, S.len, fun i hi => (S.sl i hi).mono fr (fun a e z => ?_) hz, S.inj, S.fresh⟩
  · by_cases hb : b = L
    · subst hb
      rw [hL] at e; cases e
      rcases k with k | k | ⟨ps, k⟩
      · exact absurd k hZ
      · exact absurd trivial k
      · cases k
    · rw [upd_ne hb]; exact e
  · exact fr.there b (S.nt b hb)
  · have hb : b ≠ L := fun z => h0 (z ▸ ⟨o, e, .of_keep k⟩)
    rw [upd_ne hb]
    exact S.fr.keep b o e k
  · exact fr.there b (S.fr.there b e)
  · rcases z with z | z
    · exact (S.fresh i a e).2.1 (S.zn a z)
    · rw [z] at e
      exact (S.fresh i L e).2.1 hN
def compF (g : EvG) (ft : EvT) (fe : EvE) (δ : Sls) : List D → Om → Rs (List D)
  | [], ω => .ok [] ω
  | d :: ds, ω => match g d δ ω with
    | none => .bad
    | some δ1 => (ft δ1 ω).bind fun b ω1 => if b = true then (fe δ1 ω1).bind fun y ω2 => (compF g ft fe δ ds ω2).bind fun ys ω3 => .ok (y :: ys) ω3 else compF g ft fe δ ds ω1
def noErr {α : Type} : Rs α → Rs α
  | .err _ _ => .bad
  | r => r
def eComp (f : EvI) (g : EvG) (ft : EvT) (fe : EvE) (vs : List Nat) : EvE := fun δ ω => (f δ ω).bind fun ds ω1 => (noErr (compF g ft fe (wipeD δ vs) ds ω1)).bind fun ys ω2 => .ok (.lst ys) ω2
def tTrue : EvT := fun _ ω => .ok true ω
structure PTsd (X : Cx) (W : Wt) (ifs : List Expr) (f : EvT) : Prop where
  ex : ∃ t, PTs X ifs t ∧ ∀ M al σ H δ ω Q, DSt X.K W.P M al σ H δ ω → PostR X.K M al σ H δ relT (f δ ω) Q W → t σ H Q
theorem tsd_nil : PTsd X W [] tTrue := ⟨_, pts_nil, fun M al σ H δ ω Q S h => h true H S (Fr.refl H) rfl⟩
theorem tsd_one {c : Expr} (h : PTd X W c ft) : PTsd X W [c] ft := by
  obtain ⟨t, p1, q1⟩ := h.ex
  exact ⟨_, pts_one p1, q1⟩
abbrev NoX (P : PP) : Wt := ⟨fun _ _ _ => False, P⟩
theorem comp_okG {rel : Hp → V → D → Prop} {g : TG} {fg : EvG} {tt : TT} {te : TE} {fe : EvE} {J : It} {ds : List D} {Q : VK} {vs : List Nat} (hg : GOk K W.P vs g fg)
    (ht : ∀ M al σ H δ ω Q, DSt K W.P M al σ H δ ω → PostR K M al σ H δ relT (ft δ ω) Q (NoX W.P) → tt σ H Q)
    (he : ∀ M al σ H δ ω Q, DSt K W.P M al σ H δ ω → PostR K M al σ H δ (relE K M al) (fe δ ω) Q (NoX W.P) → te σ H Q)
    (S : DSt K W.P M al σ H δ ω) (hJ : ItC K M.sa (NA M.N al) M.Z J H ds) (L : Addr) (hrel : ∀ H' xs ds, H' L = some (.lst xs) → xs.length ≤ sizeLine → Reps K M.sa (fun b => NA M.N al b ∨ b = L) H' xs ds → rel H' (.ref L) (.lst ds)) (h : PostR K M al σ H δ rel ((noErr (compF fg ft fe (wipeD δ vs) ds ω)).bind fun ys ω2 => .ok (.lst ys) ω2) Q W) (hL : H L = none) :
    ∃ Wn : Nat → Nat → Hp → Prop, (∃ m, Wn 0 m (upd H L (.lst []))) ∧ ∀ i m H', Wn i m H' →
      (J.stop i H' ∧ Q (.ref L) H') ∨ (J.go i H' ∧ ∃ Nx : Hp → Prop, (∀ H'', Nx H'' → ∃ m', m' < m ∧ Wn (i + 1) m' H'') ∧ ∀ x H'', J.yld i H' x H'' → g x (wipe σ vs) H'' fun σ2 H2 => wipe σ2 vs = wipe σ vs ∧ tt σ2 H2 fun b H3 =>
        if b = true then te σ2 H3 fun y H4 => ∃ acc, H4 L = some (.lst acc) ∧ acc.length < sizeLine ∧ Nx (upd H4 L (.lst (acc ++ [y]))) else Nx H3) := by
  -- what the rest gives, behind acc
  let Inv0 : Nat → Hp → Prop := fun i H' => ∃ (acc : List V) (ys : List D) (ω' : Om), DSt K W.P (M.cmp al vs L) (alW al vs) (wipe σ vs) H' (wipeD δ vs) ω' ∧ Fr M.Z H H' ∧ H' L = some (.lst acc) ∧ Reps K M.sa (NA (M.cmp al vs L).N (alW al vs)) H' acc ys ∧ acc.length ≤ i ∧
    PostR K M al σ H δ rel ((noErr (compF fg ft fe (wipeD δ vs) (ds.drop i) ω')).bind fun zs ω2 => .ok (.lst (ys ++ zs)) ω2) Q W
  have hNL : (M.cmp al vs L).N L := .inr (.inl rfl)
  have hZL : ¬ M.Z L := fun z => Tr.not hL (S.nt L (S.zn L z))
  have h0L : ¬ Tr M.H0 L := fun z => Tr.not hL (S.fr.there L z)
  refine ⟨fun i m H' => m = ds.length - i ∧ i ≤ ds.length ∧ Inv0 i H', ⟨ds.length, by simp, Nat.zero_le _, [], [], ω, S.cmp hL, .same (same_upd hL), upd_same, .nil, Nat.le_refl _, by simpa using h⟩, ?_⟩
  rintro i m H1 ⟨rfl, hi, acc, ys, ω1, S1, f1, hA, rA, lA, h1⟩
  have hN : ∀ b, NA (M.cmp al vs L).N (alW al vs) b → Tr H b → NA M.N al b := fun b hb ⟨o, ho, _⟩ => by
    rcases na_cmp b |>.mp hb with h | rfl
    · exact h
    · rw [hL] at ho; cases ho
  obtain ⟨go, stop⟩ := hJ.2 _ hN i H1 f1
  by_cases hlt : i < ds.length
  · obtain ⟨go, yl⟩ := go hlt
    rw [List.drop_eq_getElem_cons hlt] at h1
    refine .inr ⟨go, Inv0 (i + 1), fun H'' z => ⟨ds.length - (i + 1), by omega, rfl, hlt, z⟩, fun x H2 y => ?_⟩
    obtain ⟨sm, d, hd, rd⟩ := yl x H2 y
    have e : ds[i] = d := by
      rw [List.getElem?_eq_getElem hlt] at hd
      exact Option.some.inj hd
    subst e
    have S2 := S1.same sm
    have f2 : Fr M.Z H H2 := f1.trans (.same sm)
    unfold compF at h1
    cases eg : fg ds[i] (wipeD δ vs) ω1 with
    | none => rw [eg] at h1; exact (show False from h1).elim
    | some δ2 =>
      rw [eg] at h1
      dsimp only at h1
      refine hg (M.cmp al vs L) (alW al vs) (wipe σ vs) H2 _ ω1 x _ δ2 _ S2 rd eg fun σ2 S3 hl2 hk2 => ?_
      rw [alW_twice] at S3
      refine ⟨(wipe_eq hl2 hk2).trans (wipe_twice σ vs), ?_⟩
      refine ht (M.cmp al vs L) (alW al vs) σ2 H2 δ2 ω1 _ S3 ?_
      cases et : ft δ2 ω1 with
      | err z ω3 => rw [et] at h1; exact (show False from h1).elim
      | bad => rw [et] at h1; exact (show False from h1).elim
      | ok bt ω3 =>
        rw [et] at h1
        dsimp only [Rs.bind] at h1
        intro bv H3 S4 f3 eb
        have eb : bv = bt := eb
        subst eb
        cases bv with
        | false =>
          rw [if_neg (by decide)] at h1 ⊢
          exact ⟨acc, ys, ω3, S2.go f3 S4.g, f2.trans f3, f3.keep _ _ (sm _ _ hA) hZL, rA.mono ((Fr.same sm).trans f3) S1.zna, Nat.le_succ_of_le lA, h1⟩
        | true =>
          rw [if_pos rfl] at h1 ⊢
          refine he (M.cmp al vs L) (alW al vs) σ2 H3 δ2 ω3 _ S4 ?_
          cases ee : fe δ2 ω3 with
          | err z ω4 => rw [ee] at h1; exact (show False from h1).elim
          | bad => rw [ee] at h1; exact (show False from h1).elim
          | ok yd ω4 =>
            rw [ee] at h1
            dsimp only [Rs.bind] at h1
            intro yv H4 S5 f4 ry
            have f24 : Fr M.Z H2 H4 := f3.trans f4
            have hA4 : H4 L = some (.lst acc) := f24.keep _ _ (sm _ _ hA) hZL
            have S6 := (S2.go f24 S5.g).wr (ys := acc ++ [yv]) hA4 hNL hZL h0L
            have frw : Fr (fun b => M.Z b ∨ b = L) H4 (upd H4 L (.lst (acc ++ [yv]))) := ⟨fun b o e k => by
              by_cases hb : b = L
              · subst hb
                rw [hA4] at e; cases e
                exact absurd (.inr rfl) k
              · rw [upd_ne hb]; exact e, fun b ⟨o, e, n⟩ => by
              by_cases hb : b = L
              · subst hb; exact ⟨_, upd_same, trivial⟩
              · exact ⟨o, by rw [upd_ne hb]; exact e, n⟩⟩
            have hzw : ∀ b, (M.Z b ∨ b = L) → NA (M.cmp al vs L).N (alW al vs) b := fun b hb => by
              rcases hb with hb | rfl
              · exact .inl (.inl (S.zn b hb))
              · exact .inl hNL
            have rA4 := ((rA.mono ((Fr.same sm).trans f24) S1.zna).app (.cons ry .nil)).mono frw hzw
            have lt : acc.length < sizeLine := by have := hJ.1; omega
            refine ⟨acc, hA4, lt, acc ++ [yv], ys ++ [yd], ω4, S6, ?_, upd_same, rA4, by rw [List.length_append, List.length_singleton]; omega, ?_⟩
            · have f4' : Fr M.Z H H4 := f2.trans f24
              refine ⟨fun b o e k => ?_, fun b e => frw.there b (f4'.there b e)⟩
              have hb : b ≠ L := fun z => by rw [z, hL] at e; cases e
              rw [upd_ne hb]
              exact f4'.keep b o e k
            · cases ec : compF fg ft fe (wipeD δ vs) (ds.drop (i + 1)) ω4 with
              | err z ω5 => rw [ec] at h1; exact (show False from h1).elim
              | bad => rw [ec] at h1; exact (show False from h1).elim
              | ok zs ω5 =>
                rw [ec] at h1
                have e5 : ys ++ [yd] ++ zs = ys ++ (yd :: zs) := by simp
                show PostR K M al σ H δ rel (.ok (.lst (ys ++ [yd] ++ zs)) ω5) Q W
                rw [e5]
                exact h1
  · have e : i = ds.length := by omega
    subst e
    rw [List.drop_length] at h1
    refine .inl ⟨stop (Nat.le_refl _), ?_⟩
    have h1' : PostR K M al σ H δ rel (.ok (.lst (ys ++ [])) ω1) Q W := h1
    rw [List.append_nil] at h1'
    refine h1' _ H1 (S.go f1 S1.g) f1 (hrel _ _ _ hA ?_ (rA.less fun b hb _ => na_cmp b |>.mpr hb))
    have := hJ.1
    omega
theorem comp_ok {g : TG} {fg : EvG} {tt : TT} {te : TE} {fe : EvE} {J : It} {ds : List D} {Q : VK} {vs : List Nat} (hg : GOk K W.P vs g fg)
    (ht : ∀ M al σ H δ ω Q, DSt K W.P M al σ H δ ω → PostR K M al σ H δ relT (ft δ ω) Q (NoX W.P) → tt σ H Q)
    (he : ∀ M al σ H δ ω Q, DSt K W.P M al σ H δ ω → PostR K M al σ H δ (relE K M al) (fe δ ω) Q (NoX W.P) → te σ H Q)
    (S : DSt K W.P M al σ H δ ω) (hJ : ItC K M.sa (NA M.N al) M.Z J H ds) (h : PostR K M al σ H δ (relE K M al) ((noErr (compF fg ft fe (wipeD δ vs) ds ω)).bind fun ys ω2 => .ok (.lst ys) ω2) Q W) (L : Addr) (hL : H L = none) :
    ∃ Wn : Nat → Nat → Hp → Prop, (∃ m, Wn 0 m (upd H L (.lst []))) ∧ ∀ i m H', Wn i m H' →
      (J.stop i H' ∧ Q (.ref L) H') ∨ (J.go i H' ∧ ∃ Nx : Hp → Prop, (∀ H'', Nx H'' → ∃ m', m' < m ∧ Wn (i + 1) m' H'') ∧ ∀ x H'', J.yld i H' x H'' → g x (wipe σ vs) H'' fun σ2 H2 => wipe σ2 vs = wipe σ vs ∧ tt σ2 H2 fun b H3 =>
        if b = true then te σ2 H3 fun y H4 => ∃ acc, H4 L = some (.lst acc) ∧ acc.length < sizeLine ∧ Nx (upd H4 L (.lst (acc ++ [y]))) else Nx H3) :=
  comp_okG hg ht he S hJ L (fun H' xs ds h1 h2 r => .lst h1 (fun z => Tr.not hL (S.naT L z)) h2 (r.less fun b hb _ => .inl hb)) h hL
theorem fam_e {ι : Type} {Xi : ι → Cx} {fe : EvE} (hK : ∀ i, (Xi i).K = K) (h : ∀ i, PEd (Xi i) (NoX W.P) e fe) :
    ∃ t, (∀ M al σ H δ ω Q, DSt K W.P M al σ H δ ω → PostR K M al σ H δ (relE K M al) (fe δ ω) Q (NoX W.P) → t σ H Q) ∧ ∀ i, PE (Xi i) e t := by
  refine ⟨fun σ H Q => ∀ i t, PE (Xi i) e t → (∀ M al σ H δ ω Q, DSt K W.P M al σ H δ ω → PostR K M al σ H δ (relE K M al) (fe δ ω) Q (NoX W.P) → t σ H Q) → t σ H Q, fun M al σ H δ ω Q S h i t _ ht => ht M al σ H δ ω Q S h, fun i => ?_⟩
  obtain ⟨t, p, q⟩ := (h i).ex
  rw [hK i] at q
  exact ⟨fun pins s σ H Q I hq => p.run pins s σ H Q I (hq i t p q)⟩
theorem fam_ts {ι : Type} {Xi : ι → Cx} {ifs : List Expr} (hK : ∀ i, (Xi i).K = K) (h : ∀ i, PTsd (Xi i) (NoX W.P) ifs ft) :
    ∃ t, (∀ M al σ H δ ω Q, DSt K W.P M al σ H δ ω → PostR K M al σ H δ relT (ft δ ω) Q (NoX W.P) → t σ H Q) ∧ ∀ i, PTs (Xi i) ifs t := by
  refine ⟨fun σ H Q => ∀ i t, PTs (Xi i) ifs t → (∀ M al σ H δ ω Q, DSt K W.P M al σ H δ ω → PostR K M al σ H δ relT (ft δ ω) Q (NoX W.P) → t σ H Q) → t σ H Q, fun M al σ H δ ω Q S h i t _ ht => ht M al σ H δ ω Q S h, fun i => ?_⟩
  obtain ⟨t, p, q⟩ := (h i).ex
  rw [hK i] at q
  exact ⟨fun pins s σ H Q I hq => p.run pins s σ H Q I (hq i t p q)⟩
theorem fam_g {ι : Type} {Xi : ι → Cx} {tg : Expr} {vs : List Nat} {g : EvG} (hK : ∀ i, (Xi i).K = K) (h : ∀ i, PGd (Xi i) W.P tg vs g) :
    ∃ t, GOk K W.P vs t g ∧ ∀ i, PG (Xi i) tg t := by
  refine ⟨fun v σ H Q => ∀ i t, PG (Xi i) tg t → GOk K W.P vs t g → t v σ H Q, fun M al σ H δ ω v d δ' Q S r hg k i t _ ht => ht M al σ H δ ω v d δ' Q S r hg k, fun i => ?_⟩
  obtain ⟨t, p, q⟩ := (h i).ex
  rw [hK i] at q
  exact ⟨fun pins s σ H v u Q I r hq => p.run pins s σ H v u Q I r (hq i t p q)⟩
/-- a block's own context -/
abbrev Blk (X : Cx) (scope : Scope) (p : Shared × Hp × Addr × List (Str × Addr) × List Addr) : Cx := X.blk p.1 p.2.1 scope (compEnvC scope p.2.2.2.1 p.2.2.1 X.env) p.2.2.2.2
theorem PId.toC {tg iter : Expr} {fi : EvI} (h : PId X W tg iter fi) : PIc X W tg iter fi := by
  obtain ⟨t, p, q⟩ := h.ex
  refine ⟨t, p, fun M al σ H δ ω R S h => q M al σ H δ ω R S ?_⟩
  cases e : fi δ ω with
  | ok ds ω1 =>
    rw [e] at h
    exact fun J H1 S1 f r => h J H1 S1 f (r.toC S1.zna)
  | err x ω1 => rw [e] at h; exact h
  | bad => rw [e] at h; exact h
theorem pd_lcC {elt tg iter : Expr} {ifs : List Expr} {scope : Scope} {own : List (Str × Nat)} {fi : EvI} {g : EvG} {fe : EvE} (hc : X.calm = true) (hN : X.N.Nodup) (hi : PIc X W tg iter fi) (ok : BlkOk X.N X.env.scope scope own)
    (hg : ∀ p, PGd (Blk X scope p) W.P tg (own.map (·.2)) g) (ht : ∀ p, PTsd (Blk X scope p) (NoX W.P) ifs ft) (he : ∀ p, PEd (Blk X scope p) (NoX W.P) elt fe)
    (hs : ∀ x, foldedSetIterable iter X.env x = pure x := by intro _; rfl) : PEd X W (.ListComp elt [⟨tg, iter, ifs, 0⟩] scope pos) (eComp fi g ft fe (own.map (·.2))) := by
  obtain ⟨t1, p1, q1⟩ := hi.ex
  obtain ⟨t2, q2, p2⟩ := fam_g (K := X.K) (Xi := Blk X scope) (fun _ => rfl) hg
  obtain ⟨t3, q3, p3⟩ := fam_ts (K := X.K) (Xi := Blk X scope) (fun _ => rfl) ht
  obtain ⟨t4, q4, p4⟩ := fam_e (K := X.K) (Xi := Blk X scope) (fun _ => rfl) he
  refine ⟨_, pe_lc hc hN p1 ok (fun s H C cl fp => p2 (s, H, C, cl, fp)) (fun s H C cl fp => p3 (s, H, C, cl, fp)) (fun s H C cl fp => p4 (s, H, C, cl, fp)) hs, fun M al σ H δ ω Q S h => ?_⟩
  refine q1 M al σ H δ ω _ S (post_mono (fun J H1 h1 => ?_) (post_bind (rel := fun H1 J ds => ItC X.K M.sa (NA M.N al) M.Z J H1 ds) h))
  obtain ⟨ds, ω1, e1, S1, f1, r1, h1⟩ := h1
  exact fun L hL => comp_ok q2 q3 q4 S1 r1 (post_from f1 h1) L hL
/-- y = [..] on one line -/
theorem sd_setLcC {i : Nat} {y : Str} {py spos : Pos} {elt tg iter : Expr} {ifs : List Expr} {scope : Scope} {own : List (Str × Nat)} {fi : EvI} {g : EvG} {fe : EvE} (hc : X.calm = true) (hN : X.N.Nodup) (hy : X.N[i]? = some y) (hyl : X.env.scope.names.lookup y = some .local)
    (hsw : swapsWith (.ListComp elt [⟨tg, iter, ifs, 0⟩] scope pos) (some (.Name y py)) spos.line X.env = pure true) (hi : PIc X W tg iter fi) (ok : BlkOk X.N X.env.scope scope own)
    (hg : ∀ p, PGd (Blk X scope p) W.P tg (own.map (·.2)) g) (ht : ∀ p, PTsd (Blk X scope p) (NoX W.P) ifs ft) (he : ∀ p, PEd (Blk X scope p) (NoX W.P) elt fe)
    (hs : ∀ x, foldedSetIterable iter X.env x = pure x := by intro _; rfl) : PSd X W (.Assign [.Name y py] (.ListComp elt [⟨tg, iter, ifs, 0⟩] scope pos) spos) (sSet i (eComp fi g ft fe (own.map (·.2)))) := by
  obtain ⟨t1, p1, q1⟩ := hi.ex
  obtain ⟨t2, q2, p2⟩ := fam_g (K := X.K) (Xi := Blk X scope) (fun _ => rfl) hg
  obtain ⟨t3, q3, p3⟩ := fam_ts (K := X.K) (Xi := Blk X scope) (fun _ => rfl) ht
  obtain ⟨t4, q4, p4⟩ := fam_e (K := X.K) (Xi := Blk X scope) (fun _ => rfl) he
  refine ⟨_, ps_setLc hc hN hy hyl hsw p1 ok (fun s H C cl fp => p2 (s, H, C, cl, fp)) (fun s H C cl fp => p3 (s, H, C, cl, fp)) (fun s H C cl fp => p4 (s, H, C, cl, fp)) hs, fun M al σ H δ ω D S h => ?_⟩
  have h' : PostR X.K M al σ H δ (relE X.K M al) (eComp fi g ft fe (own.map (·.2)) δ ω) (fun x H1 => gName i x σ H1 D.nx) W :=
    post_mono (fun x H1 h1 => by
      obtain ⟨d1, ω1, e1, S1, f1, r1, h1⟩ := h1
      exact h1 _ _ H1 (S1.set r1) f1.s AlExt.drop) (posts_bind (rel := relE X.K M al) S.fr h)
  refine q1 M al σ H δ ω _ S (post_mono (fun J H1 h1 => ?_) (post_bind (rel := fun H1 J ds => ItC X.K M.sa (NA M.N al) M.Z J H1 ds) h'))
  obtain ⟨ds, ω1, e1, S1, f1, r1, h1⟩ := h1
  exact fun L hL => comp_ok q2 q3 q4 S1 r1 (post_from f1 h1) L hL
theorem pd_lc {elt tg iter : Expr} {ifs : List Expr} {scope : Scope} {own : List (Str × Nat)} {fi : EvI} {g : EvG} {fe : EvE} (hc : X.calm = true) (hN : X.N.Nodup) (hi : PId X W tg iter fi) (ok : BlkOk X.N X.env.scope scope own)
    (hg : ∀ p, PGd (Blk X scope p) W.P tg (own.map (·.2)) g) (ht : ∀ p, PTsd (Blk X scope p) (NoX W.P) ifs ft) (he : ∀ p, PEd (Blk X scope p) (NoX W.P) elt fe)
    (hs : ∀ x, foldedSetIterable iter X.env x = pure x := by intro _; rfl) : PEd X W (.ListComp elt [⟨tg, iter, ifs, 0⟩] scope pos) (eComp fi g ft fe (own.map (·.2))) :=
  pd_lcC hc hN hi.toC ok hg ht he hs
/-- y = [..] on one line -/
theorem sd_setLc {i : Nat} {y : Str} {py spos : Pos} {elt tg iter : Expr} {ifs : List Expr} {scope : Scope} {own : List (Str × Nat)} {fi : EvI} {g : EvG} {fe : EvE} (hc : X.calm = true) (hN : X.N.Nodup) (hy : X.N[i]? = some y) (hyl : X.env.scope.names.lookup y = some .local)
    (hsw : swapsWith (.ListComp elt [⟨tg, iter, ifs, 0⟩] scope pos) (some (.Name y py)) spos.line X.env = pure true) (hi : PId X W tg iter fi) (ok : BlkOk X.N X.env.scope scope own)
    (hg : ∀ p, PGd (Blk X scope p) W.P tg (own.map (·.2)) g) (ht : ∀ p, PTsd (Blk X scope p) (NoX W.P) ifs ft) (he : ∀ p, PEd (Blk X scope p) (NoX W.P) elt fe)
    (hs : ∀ x, foldedSetIterable iter X.env x = pure x := by intro _; rfl) : PSd X W (.Assign [.Name y py] (.ListComp elt [⟨tg, iter, ifs, 0⟩] scope pos) spos) (sSet i (eComp fi g ft fe (own.map (·.2)))) :=
  sd_setLcC hc hN hy hyl hsw hi.toC ok hg ht he hs
/-! ### a list of the def's own -/
theorem DSt.setOwn (S : DSt K P M al σ H δ ω) {i : Nat} {L : Addr} {xs : List V} {ds : List D} (hL : H L = none) (hi : i < δ.length) (hl : xs.length ≤ sizeLine) (r : Reps K M.sa (NA M.N al) H xs ds) :
    DSt K P M (fun j => if j = i then some L else al j) (σ.set i (some (.ref L))) (upd H L (.lst xs)) (δ.set i (.own ds)) ω := by
  have sm := same_upd (o := .lst xs) hL
  have S1 := S.same sm
  have hle : ∀ b, NA M.N (fun j => if j = i then some L else al j) b → Tr H b → NA M.N al b := fun b hb ⟨o, ho, _⟩ => by
    rcases hb with hb | ⟨k, hb⟩
    · exact .inl hb
    · by_cases e : k = i
      · simp only [e, if_pos] at hb
        cases hb
        rw [hL] at ho; cases ho
      · simp only [if_neg e] at hb; exact .inr ⟨k, hb⟩
  have mono1 : ∀ {v : V} {d : D}, Rep K M.sa (NA M.N al) H v d → Rep K M.sa (NA M.N (fun j => if j = i then some L else al j)) (upd H L (.lst xs)) v d := fun r => (r.less hle).mono (Z := fun _ => False) (.same sm) fun _ z => z.elim
  have monoN : ∀ {v : List V} {d : List D}, Reps K M.sa (NA M.N al) H v d → Reps K M.sa (NA M.N (fun j => if j = i then some L else al j)) (upd H L (.lst xs)) v d := fun r => (r.less hle).mono (Z := fun _ => False) (.same sm) fun _ z => z.elim
  refine ⟨S1.pp, S1.zn, S1.gm, S1.g, S1.nt, S1.fr, by rw [List.length_set, List.length_set]; exact S.len, fun j hj => ?_, fun j k a h1 h2 => ?_, fun j a h => ?_⟩
  · rw [List.length_set] at hj
    by_cases e : j = i
    · subst e
      have hs : j < σ.length := by rw [S.len]; exact hj
      rw [List.getElem?_set_self hs, List.getElem?_set_self hj, if_pos rfl]
      exact .own upd_same hl (monoN r)
    · rw [List.getElem?_set_ne (Ne.symm e), List.getElem?_set_ne (Ne.symm e), if_neg e]
      have q := S.sl j hj
      generalize (σ[j]?).getD none = o at q ⊢
      generalize (δ[j]?).getD .emp = x at q ⊢
      generalize al j = w at q ⊢
      cases q with
      | emp => exact .emp
      | val r => exact .val (mono1 r)
      | own h l r => exact .own (sm _ _ h) l (monoN r)
  · have noL : ∀ k, al k ≠ some L := fun k z => by
      obtain ⟨ys, e⟩ := S.own_there z
      rw [hL] at e; cases e
    by_cases e1 : j = i
    · by_cases e2 : k = i
      · rw [e1, e2]
      · simp only [e1, if_pos] at h1
        simp only [if_neg e2] at h2
        rw [← h1] at h2
        exact absurd h2 (noL k)
    · by_cases e2 : k = i
      · simp only [if_neg e1] at h1
        simp only [e2, if_pos] at h2
        rw [← h2] at h1
        exact absurd h1 (noL j)
      · simp only [if_neg e1] at h1
        simp only [if_neg e2] at h2
        exact S.inj j k a h1 h2
  · rw [List.length_set]
    by_cases e1 : j = i
    · simp only [e1, if_pos] at h
      cases h
      exact ⟨fun z => Tr.not hL (S.fr.there L z), fun z => Tr.not hL (S.nt L z), by rw [e1]; exact hi⟩
    · simp only [if_neg e1] at h
      exact S.fresh j a h
/-- x = [..], a list that will be changed -/
def sNew (i : Nat) (fs : EvA) : EvS := fun δ ω => (fs δ ω).bind fun ds ω1 => if ds.length ≤ sizeLine ∧ i < δ.length then .ok (.nx (δ.set i (.own ds))) ω1 else .bad
theorem sd_new {i : Nat} {x : Str} {pos' lp : Pos} (hN : X.N.Nodup) (hi : X.N[i]? = some x) (hx : Loc X.env.scope x) (he : PAd X W es fs) (hs : swapsWith (.List es lp) (some (.Name x pos')) pos.line X.env = pure false := by rfl) (hf : X.fn x = true ∨ X.env.scope.names.lookup x = some .local := by first | exact .inl rfl | exact .inr rfl | assumption) :
    PSd X W (.Assign [.Name x pos'] (.List es lp) pos) (sNew i fs) := by
  obtain ⟨t, p1, q1⟩ := he.ex
  refine ⟨_, ps_set (i := i) hN hi hx (pe_lst p1) hs hf, fun M al σ H δ ω D S h => ?_⟩
  refine q1 M al σ H δ ω _ S (post_mono (fun xs H1 h1 => ?_) (posts_bind (rel := relA X.K M al) S.fr h))
  obtain ⟨ds, ω1, e1, S1, f1, r1, h1⟩ := h1
  split at h1
  · rename_i hl
    have hl2 : xs.length ≤ sizeLine := by rw [r1.len]; exact hl.1
    refine ⟨hl2, fun L hL => h1 _ _ _ (S1.setOwn hL hl.2 hl2 r1) (f1.trans (.same (same_upd hL))).s fun j a q => ?_⟩
    by_cases e : j = i
    · simp only [e, if_pos] at q
      cases q
      exact .inr fun z => Tr.not hL (f1.there L z)
    · simp only [if_neg e] at q; exact .inl ⟨j, q⟩
  · exact h1.elim
/-- the own list in slot i is written -/
theorem DSt.wrOwn (S : DSt K P M al σ H δ ω) {i : Nat} {L : Addr} {xs ys : List V} {es ds : List D} (hi : δ[i]? = some (.own es)) (ha : al i = some L) (hσ : σ[i]? = some (some (.ref L))) (hL : H L = some (.lst xs)) (hl : ys.length ≤ sizeLine) (r : Reps K M.sa (NA M.N al) H ys ds) :
    DSt K P M al σ (upd H L (.lst ys)) (δ.set i (.own ds)) ω ∧ FrS M al H (upd H L (.lst ys)) := by
  obtain ⟨f1, f2, f3⟩ := S.fresh i L ha
  have hZ : ¬ M.Z L := fun z => f2 (S.zn L z)
  have fr : Fr (fun b => M.Z b ∨ b = L) H (upd H L (.lst ys)) := ⟨fun b o e k => by
      by_cases hb : b = L
      · subst hb
        rw [hL] at e; cases e
        exact absurd (.inr rfl) k
      · rw [upd_ne hb]; exact e, fun b ⟨o, e, n⟩ => by
      by_cases hb : b = L
      · subst hb; exact ⟨_, upd_same, trivial⟩
      · exact ⟨o, by rw [upd_ne hb]; exact e, n⟩⟩
  have hz : ∀ b, (M.Z b ∨ b = L) → NA M.N al b := fun b hb => by
    rcases hb with hb | rfl
    · exact .inl (S.zn b hb)
    · exact .inr ⟨i, ha⟩
  refine ⟨⟨S.pp, S.zn, S.gm, S.gm _ _ _ (fun b o e k => ?_) S.g, fun b hb => ?_, ⟨fun b o e k => ?_, fun b e => ?_⟩, by rw [List.length_set]; exact S.len, fun j hj => ?_, S.inj, fun j a h => by rw [List.length_set]; exact S.fresh j a h⟩, fr.wide fun b hb => ?_⟩
  · by_cases hb : b = L
    · subst hb
      rw [hL] at e; cases e
      rcases k with k | k | ⟨ps, k⟩
      · exact absurd k hZ
      · exact absurd trivial k
      · cases k
    · rw [upd_ne hb]; exact e
  · exact fr.there b (S.nt b hb)
  · have hb : b ≠ L := fun z => f1 (z ▸ ⟨o, e, .of_keep k⟩)
    rw [upd_ne hb]
    exact S.fr.keep b o e k
  · exact fr.there b (S.fr.there b e)
  · rw [List.length_set] at hj
    by_cases e : j = i
    · subst e
      rw [List.getElem?_set_self hj, hσ, ha]
      exact .own upd_same hl (r.mono fr hz)
    · rw [List.getElem?_set_ne (Ne.symm e)]
      refine (S.sl j hj).mono fr (fun a ea z => ?_) hz
      rcases z with z | z
      · exact (S.fresh j a ea).2.1 (S.zn a z)
      · rw [z] at ea
        exact e (S.inj j i L ea ha)
  · rcases hb with hb | rfl
    · exact .inl hb
    · exact .inr ⟨i, ha⟩
/-- x.append(e) -/
def sApp (i : Nat) (fa : EvE) : EvS := fun δ ω => match δ[i]? with
  | some (.own ds) => (fa δ ω).bind fun d ω1 => if ds.length < sizeLine then .ok (.nx (δ.set i (.own (ds ++ [d])))) ω1 else .bad
  | _ => .bad
theorem sd_app {i : Nat} {x : Str} {np apos cpos : Pos} (hN : X.N[i]? = some x) (he : PEd X W e fa) (hv : Vis X.env.scope x := by first | exact Or.inl rfl | exact Or.inr (Or.inl rfl) | exact Or.inr (Or.inr rfl)) (hd : (x == ("__debug__" : Str)) = false := by decide) (hcd : (x == ("__classdict__" : Str)) = false := by decide)
    (hbase : attributeBase (.Name x np) "append" X.env (eval (.Name x np) X.env) = eval (.Name x np) X.env := by rfl)
    (hfew : ((backTo cpos (starEach (e :: []) X.env)).all (fun x => !x.1) && (backToKw cpos (keywordEach [] X.env)).all (fun x => x.1.isSome)
      && decide ((e :: []).length + ([] : List Keyword).length + (if ([] : List Keyword).isEmpty then 0 else 1) < 30)) = true := by rfl)
    (hline : (apos.endLine == cpos.line) = true := by rfl) (hs0 : starEach (e :: []) X.env = (false, eval e X.env) :: starEach [] X.env := by rfl) (hplain : (backTo cpos (starEach [] X.env)).any (·.1) = false := by rfl)
    (hs : swapsWith (.Call (.Attribute (.Name x np) "append" apos) [e] [] cpos) none pos.line X.env = pure false := by rfl) :
    PSd X W (.Expr (.Call (.Attribute (.Name x np) "append" apos) [e] [] cpos) pos) (sApp i fa) := by
  obtain ⟨t, p1, q1⟩ := he.ex
  refine ⟨_, ps_expr (pe_bm PySem.F.plainAttrs_list PySem.F.slot_list_append PySem.F.type_list_append mt_append (pe_var (i := i) hN hv hd hcd) (pa_cons p1 pa_nil hs0) hbase hfew hline hs0 hplain) hs, fun M al σ H δ ω D S h => ?_⟩
  unfold sApp at h
  split at h
  · rename_i ds eo
    obtain ⟨L, xs, ha, hσ, hL, hl, r⟩ := S.ownAt eo
    refine ⟨_, hσ, .inl ⟨rfl, _, SqL.of hL⟩, ?_⟩
    refine q1 M al σ H δ ω _ S (post_mono (fun y H1 h1 => ?_) (posts_bind (rel := relE X.K M al) S.fr h))
    obtain ⟨d, ω1, e1, S1, f1, r1, h1⟩ := h1
    split at h1
    · rename_i hlt
      obtain ⟨L', xs1, ha', hσ', hL1, hl1, rs1⟩ := S1.ownAt eo
      have eL : L' = L := Option.some.inj (ha'.symm.trans ha)
      subst eL
      have lt : xs1.length < sizeLine := by rw [rs1.len]; exact hlt
      obtain ⟨S2, f2⟩ := S1.wrOwn (ys := xs1 ++ [y]) eo ha hσ hL1 (by rw [List.length_append, List.length_singleton]; omega) (rs1.app (.cons r1 .nil))
      exact ⟨L', xs1, y, rfl, rfl, hL1, lt, h1 _ _ _ S2 (Fr.trans f1.s f2) AlExt.refl⟩
    · exact h1.elim
  · exact h.elim
/-- from here on the list in slot i is a datum (a ghost's step) -/
theorem DSt.freeze (S : DSt K P M al σ H δ ω) {i : Nat} {ds : List D} (h : δ[i]? = some (.own ds)) : DSt K P M (fun j => if j = i then none else al j) σ H (δ.set i (.val (.lst ds))) ω := by
  obtain ⟨L, xs, ha, hσ, hL, hl, r⟩ := S.ownAt h
  have hi : i < δ.length := (List.getElem?_eq_some_iff.mp h).1
  have hle : ∀ b, NA M.N (fun j => if j = i then none else al j) b → Tr H b → NA M.N al b := fun b hb _ => by
    rcases hb with hb | ⟨k, hb⟩
    · exact .inl hb
    · by_cases e : k = i
      · simp only [e, if_pos] at hb; cases hb
      · simp only [if_neg e] at hb; exact .inr ⟨k, hb⟩
  have nL : ¬ NA M.N (fun j => if j = i then none else al j) L := fun z => by
    rcases z with z | ⟨k, z⟩
    · exact (S.fresh i L ha).2.1 z
    · by_cases e : k = i
      · simp only [e, if_pos] at z; cases z
      · simp only [if_neg e] at z
        exact e (S.inj k i L z ha)
  refine ⟨S.pp, S.zn, S.gm, S.g, S.nt, S.fr, by rw [List.length_set]; exact S.len, fun j hj => ?_, fun j k a h1 h2 => ?_, fun j a h => ?_⟩
  · rw [List.length_set] at hj
    by_cases e : j = i
    · subst e
      rw [List.getElem?_set_self hj, if_pos rfl, hσ]
      exact .val (.lst hL nL hl (r.less hle))
    · rw [List.getElem?_set_ne (Ne.symm e), if_neg e]
      have q := S.sl j hj
      generalize (σ[j]?).getD none = o at q ⊢
      generalize (δ[j]?).getD .emp = x at q ⊢
      generalize al j = w at q ⊢
      cases q with
      | emp => exact .emp
      | val r => exact .val (r.less hle)
      | own h l r => exact .own h l (r.less hle)
  · by_cases e1 : j = i
    · simp only [e1, if_pos] at h1; cases h1
    · by_cases e2 : k = i
      · simp only [e2, if_pos] at h2; cases h2
      · simp only [if_neg e1] at h1
        simp only [if_neg e2] at h2
        exact S.inj j k a h1 h2
  · by_cases e1 : j = i
    · simp only [e1, if_pos] at h; cases h
    · simp only [if_neg e1] at h
      rw [List.length_set]
      exact S.fresh j a h
def frz (i : Nat) (g : EvS) : EvS := fun δ ω => match δ[i]? with
  | some (.own ds) => g (δ.set i (.val (.lst ds))) ω
  | _ => .bad
theorem sd_frz {i : Nat} (h : PSsd X W rest gs) : PSsd X W rest (frz i gs) := by
  obtain ⟨t, p1, q1⟩ := h.ex
  refine ⟨t, p1, fun M al σ H δ ω D S h => ?_⟩
  unfold frz at h
  split at h
  · rename_i ds eo
    exact q1 M _ σ H _ ω D (S.freeze eo) (posts_from (Fr.refl H) AlExt.drop h)
  · exact h.elim
end
end DL

namespace DL
open PySem PySem.Spec PyProof.Rows L2
section
variable {X : Cx} {W : Wt} {K : PySem.W.Frag}
theorem Op2.or {r r' : R2} {g g' : D → D → Option D} (h : Op2 K r g) (h' : Op2 K r' g') : Op2 K (fun x y H Q => r x y H Q ∨ r' x y H Q) (fun a b => (g a b).or (g' a b)) := ⟨fun sa N H x y a b d Q ra rb e nt k => by
  cases q : g a b with
  | some z =>
    rw [q] at e
    exact .inl (h.ok sa N H x y a b d Q ra rb (by rw [q]; exact e) nt k)
  | none =>
    rw [q] at e
    exact .inr (h'.ok sa N H x y a b d Q ra rb e nt k)⟩
/-! ### whole numbers -/
def gII (f : Int → Int → D) : D → D → Option D
  | .int i, .int j => some (f i j)
  | _, _ => none
theorem op2_I0 {g : Int → Int → V} {f : Int → Int → D} (h : ∀ i j sa N H, Rep K sa N H (g i j) (f i j)) : Op2 K (rI0 g) (gII f) := ⟨fun sa N H x y a b d Q ra rb e nt k => by
  unfold gII at e
  split at e
  · cases ra
    cases rb
    cases e
    exact ⟨_, _, rfl, rfl, k _ _ (Same.refl _) (h _ _ _ _ _)⟩
  · cases e⟩
def gIC (C : Int → Int → Prop) [∀ i j, Decidable (C i j)] (f : Int → Int → D) : D → D → Option D
  | .int i, .int j => if C i j then some (f i j) else none
  | _, _ => none
theorem op2_I {C : Int → Int → Prop} [∀ i j, Decidable (C i j)] {g : Int → Int → V} {f : Int → Int → D} (h : ∀ i j sa N H, Rep K sa N H (g i j) (f i j)) : Op2 K (rI C g) (gIC C f) := ⟨fun sa N H x y a b d Q ra rb e nt k => by
  unfold gIC at e
  split at e
  · cases ra
    cases rb
    split at e
    · rename_i hc
      cases e
      exact ⟨_, _, rfl, rfl, hc, k _ _ (Same.refl _) (h _ _ _ _ _)⟩
    · cases e
  · cases e⟩
/-! ### a + b -/
def gAddS : D → D → Option D
  | .str x, .str y => if x.length + y.length ≤ sizeLine then some (.str (x ++ y)) else none
  | _, _ => none
def gAddL : D → D → Option D
  | .lst x, .lst y => if x.length + y.length ≤ sizeLine then some (.lst (x ++ y)) else none
  | _, _ => none
def gAddT : D → D → Option D
  | .tup x, .tup y => if x.length + y.length ≤ sizeLine then some (.tup (x ++ y)) else none
  | _, _ => none
theorem op2_addS : Op2 K (fun x y H Q => ∃ i j, x = .str i ∧ y = .str j ∧ i.length + j.length ≤ sizeLine ∧ Q (.str (i ++ j)) H) gAddS := ⟨fun sa N H x y a b d Q ra rb e nt k => by
  unfold gAddS at e
  split at e
  · cases ra
    cases rb
    split at e
    · rename_i hc
      cases e
      exact ⟨_, _, rfl, rfl, hc, k _ _ (Same.refl _) (.str _)⟩
    · cases e
  · cases e⟩
theorem op2_addL : Op2 K rCat gAddL := ⟨fun sa N H x y a b d Q ra rb e nt k => by
  unfold gAddL at e
  split at e
  · cases ra with
    | lst h1 n1 l1 r1 =>
      cases rb with
      | lst h2 n2 l2 r2 =>
        split at e
        · rename_i hc
          cases e
          rw [← r1.len, ← r2.len] at hc
          exact ⟨_, _, _, _, rfl, rfl, h1, h2, hc, fun p hp => k _ _ (same_upd hp) (new_ok nt hp (by rw [List.length_append]; exact hc) (r1.app r2))⟩
        · cases e
  · cases e⟩
theorem same_reps {sa : Addr} {N : Addr → Prop} {H H' : Hp} {xs : List V} {ds : List D} (s : Same H H') (r : Reps K sa N H xs ds) : Reps K sa N H' xs ds := r.mono (Z := fun _ => False) (.same s) fun _ z => z.elim
theorem same_rep {sa : Addr} {N : Addr → Prop} {H H' : Hp} {x : V} {d : D} (s : Same H H') (r : Rep K sa N H x d) : Rep K sa N H' x d := r.mono (Z := fun _ => False) (.same s) fun _ z => z.elim
theorem op2_addT : Op2 K (rCatA K) gAddT := ⟨fun sa N H x y a b d Q ra rb e nt k => by
  unfold gAddT at e
  split at e
  · cases ra with
    | tup h1 l1 r1 =>
      cases rb with
      | tup h2 l2 r2 =>
        split at e
        · rename_i hc
          cases e
          rw [← r1.len, ← r2.len] at hc
          refine ⟨_, _, _, _, rfl, rfl, h1, h2, hc, fun e0 => ?_, fun e1 e0 => ?_, fun _ _ p hp => k _ _ (same_upd hp) (.tup (SqT.of upd_same) (by rw [List.length_append]; exact hc) (same_reps (same_upd hp) (r1.app r2)))⟩
          · subst e0
            cases r1
            exact k _ _ (Same.refl _) (.tup h2 l2 r2)
          · subst e0
            cases r2
            exact k _ _ (Same.refl _) (by rw [List.append_nil]; exact .tup h1 l1 r1)
        · cases e
  · cases e⟩
/-! ### comparisons -/
def gLe (f : Int → Int → Bool) : D → D → Option D := gII fun i j => .bl (f i j)
/-- == of flat things -/
def dScal : D → Option V
  | .non => some .non
  | .bl b => some (.bl b)
  | .int i => some (.int i)
  | .str x => some (.str x)
  | _ => none
theorem dScal_rep {sa : Addr} {N : Addr → Prop} {H : Hp} {x v : V} {d : D} (r : Rep K sa N H x d) (h : dScal d = some v) : x = v := by
  cases r <;> first | (cases h; rfl) | cases h
def gEqS : D → D → Option D := fun a b => match dScal a, dScal b with
  | some x, some y => if scal x y = true then some (.bl (decide (x = y))) else none
  | _, _ => none
def gNeS : D → D → Option D := fun a b => match dScal a, dScal b with
  | some x, some y => if scal x y = true then some (.bl (!decide (x = y))) else none
  | _, _ => none
theorem op2_eqS : Op2 K rEq gEqS := ⟨fun sa N H x y a b d Q ra rb e nt k => by
  unfold gEqS at e
  split at e
  · rename_i u v hu hv
    cases dScal_rep ra hu
    cases dScal_rep rb hv
    split at e
    · rename_i hc
      cases e
      exact ⟨hc, k _ _ (Same.refl _) (.bl _)⟩
    · cases e
  · cases e⟩
theorem op2_neS : Op2 K rNe gNeS := ⟨fun sa N H x y a b d Q ra rb e nt k => by
  unfold gNeS at e
  split at e
  · rename_i u v hu hv
    cases dScal_rep ra hu
    cases dScal_rep rb hv
    split at e
    · rename_i hc
      cases e
      exact ⟨hc, k _ _ (Same.refl _) (.bl _)⟩
    · cases e
  · cases e⟩
/-- the datum as the library has it -/
def toPy : D → Option PyData
  | .non => some .none
  | .bl b => some (.bool b)
  | .int i => some (.int i)
  | .str x => some (.str x)
  | .lst xs => (toPyL xs).map .list
  | .tup xs => (toPyL xs).map .tuple
  | _ => none
where toPyL : List D → Option (List PyData)
  | [] => some []
  | d :: ds => match toPy d, toPyL ds with
    | some x, some xs => some (x :: xs)
    | _, _ => none
mutual
theorem Rep.dp {sa : Addr} {N : Addr → Prop} {H : Hp} : ∀ {v : V} {d : D} {p : PyData}, Rep K sa N H v d → toPy d = some p → Dp K H v p
  | _, _, _, .non, e => by cases e; exact .non
  | _, _, _, .bl b, e => by cases e; exact .bl b
  | _, _, _, .int i, e => by cases e; exact .int i
  | _, _, _, .str x, e => by cases e; exact .str x
  | _, _, _, .tup (ds := ds) h l r, e => by
    unfold toPy at e
    cases q : toPy.toPyL ds with
    | none => rw [q] at e; cases e
    | some ps =>
      rw [q] at e
      cases e
      exact .tup h (Reps.dp r q)
  | _, _, _, .lst (ds := ds) h n l r, e => by
    unfold toPy at e
    cases q : toPy.toPyL ds with
    | none => rw [q] at e; cases e
    | some ps =>
      rw [q] at e
      cases e
      exact .lst (SqL.of h) (Reps.dp r q)
  | _, _, _, .scr _ _, e => by cases e
  | _, _, _, .scrL _ _ _, e => by cases e
  | _, _, _, .st, e => by cases e
  | _, _, _, .ty _, e => by cases e
  | _, _, _, .glo _, e => by cases e
  | _, _, _, .map _ _ _ _ _, e => by cases e
  | _, _, _, .exc0 _, e => by cases e
  | _, _, _, .exc1 _ _ _, e => by cases e
theorem Reps.dp {sa : Addr} {N : Addr → Prop} {H : Hp} : ∀ {vs : List V} {ds : List D} {ps : List PyData}, Reps K sa N H vs ds → toPy.toPyL ds = some ps → DpAll K H vs ps
  | _, _, _, .nil, e => by cases e; exact .nil
  | _, _, _, .cons (d := d) (ds := ds) r rs, e => by
    unfold toPy.toPyL at e
    cases q1 : toPy d with
    | none => rw [q1] at e; cases e
    | some p =>
      cases q2 : toPy.toPyL ds with
      | none => rw [q1, q2] at e; cases e
      | some ps =>
        rw [q1, q2] at e
        cases e
        exact .cons (Rep.dp r q1) (Reps.dp rs q2)
end
def gEqD (neg : Bool) : D → D → Option D := fun a b => match toPy a, toPy b with
  | some x, some y => if SeqAt.shaped x = true ∧ SeqAt.shaped y = true then some (.bl (if neg then !PyData.eqv x y else PyData.eqv x y)) else none
  | _, _ => none
theorem op2_eqD : Op2 K (rEqD K) (gEqD false) := ⟨fun sa N H x y a b d Q ra rb e nt k => by
  unfold gEqD at e
  split at e
  · rename_i u v hu hv
    split at e
    · rename_i hc
      cases e
      exact ⟨u, v, ra.dp hu, rb.dp hv, hc.1, hc.2, k _ _ (Same.refl _) (.bl _)⟩
    · cases e
  · cases e⟩
theorem op2_neD : Op2 K (rNeD K) (gEqD true) := ⟨fun sa N H x y a b d Q ra rb e nt k => by
  unfold gEqD at e
  split at e
  · rename_i u v hu hv
    split at e
    · rename_i hc
      cases e
      exact ⟨u, v, ra.dp hu, rb.dp hv, hc.1, hc.2, k _ _ (Same.refl _) (.bl _)⟩
    · cases e
  · cases e⟩
/-- x is None, x is not None: of anything -/
def gIsN (neg : Bool) : D → D → Option D := fun a b => match b with
  | .non => some (.bl (match a with | .non => !neg | _ => neg))
  | _ => none
theorem op2_isN : Op2 K (fun x y H Q => y = .non ∧ Q (.bl (decide (x = .non))) H) (gIsN false) := ⟨fun sa N H x y a b d Q ra rb e nt k => by
  unfold gIsN at e
  split at e
  · cases rb
    cases e
    refine ⟨rfl, k _ _ (Same.refl _) ?_⟩
    cases ra <;> exact .bl _
  · cases e⟩
theorem op2_notN : Op2 K (fun x y H Q => y = .non ∧ Q (.bl (!decide (x = .non))) H) (gIsN true) := ⟨fun sa N H x y a b d Q ra rb e nt k => by
  unfold gIsN at e
  split at e
  · cases rb
    cases e
    refine ⟨rfl, k _ _ (Same.refl _) ?_⟩
    cases ra <;> exact .bl _
  · cases e⟩
/-! ### subscripts, slices -/
def gIxT : D → D → Option D
  | .tup ds, .int i => atI ds i
  | _, _ => none
def gIxL : D → D → Option D
  | .lst ds, .int i => atI ds i
  | _, _ => none
def gIxS : D → D → Option D
  | .str z, .int i => if z.length ≤ sizeLine then (atI z.cps.toList i).map fun c => .str ⟨#[c]⟩ else none
  | _, _ => none
theorem atI_reps {sa : Addr} {N : Addr → Prop} {H : Hp} {xs : List V} {ds : List D} {i : Int} {d : D} (r : Reps K sa N H xs ds) (h : atI ds i = some d) : ∃ v, atI xs i = some v ∧ Rep K sa N H v d := by
  unfold atI at h ⊢
  rw [r.len]
  cases e : ixN ds.length i with
  | none => rw [e] at h; cases h
  | some j =>
    rw [e] at h
    exact r.getD h
theorem op2_ixT : Op2 K (rIxT K) gIxT := ⟨fun sa N H x y a b d Q ra rb e nt k => by
  unfold gIxT at e
  split at e
  · cases ra with
    | tup h l r =>
      cases rb
      obtain ⟨v, h1, h2⟩ := atI_reps r e
      exact ⟨_, _, _, v, rfl, rfl, h, h1, k _ _ (Same.refl _) h2⟩
  · cases e⟩
theorem op2_ixL : Op2 K (rIxL K) gIxL := ⟨fun sa N H x y a b d Q ra rb e nt k => by
  unfold gIxL at e
  split at e
  · cases ra with
    | lst h n l r =>
      cases rb
      obtain ⟨v, h1, h2⟩ := atI_reps r e
      exact ⟨_, _, _, v, rfl, rfl, SqL.of h, h1, k _ _ (Same.refl _) h2⟩
  · cases e⟩
theorem op2_ixS : Op2 K rIxS gIxS := ⟨fun sa N H x y a b d Q ra rb e nt k => by
  unfold gIxS at e
  split at e
  · rename_i z i
    cases ra
    cases rb
    split at e
    · rename_i hl
      cases q : atI z.cps.toList i with
      | none => rw [q] at e; cases e
      | some c =>
        rw [q] at e
        cases e
        exact ⟨z, i, c, rfl, rfl, hl, q, k _ _ (Same.refl _) (.str _)⟩
    · cases e
  · cases e⟩
def gIx : D → D → Option D := fun a b => (gIxL a b).or ((gIxT a b).or (gIxS a b))
theorem op2_ix : Op2 K (rIx K) gIx := op2_ixL.or (op2_ixT.or op2_ixS)
/-- a part of a slice -/
abbrev EvO := Sls → Om → Rs (Option Int)
structure POd (X : Cx) (W : Wt) (e : Option Expr) (f : EvO) : Prop where
  ex : ∃ t, PO X e t ∧ ∀ M al σ H δ ω Q, DSt X.K W.P M al σ H δ ω → PostR X.K M al σ H δ (fun _ a b => a = b) (f δ ω) Q W → t σ H Q
def oNone : EvO := fun _ ω => .ok none ω
def oSome (fa : EvE) : EvO := fun δ ω => (fa δ ω).bind fun d ω1 => match d with
  | .int i => .ok (some i) ω1
  | _ => .bad
theorem od_none : POd X W none oNone := ⟨_, po_none, fun M al σ H δ ω Q S h => h none H S (Fr.refl H) rfl⟩
theorem od_some {e : Expr} {fa : EvE} (h : PEd X W e fa) : POd X W (some e) (oSome fa) := by
  obtain ⟨t, p1, q1⟩ := h.ex
  refine ⟨_, po_some p1, fun M al σ H δ ω Q S h => ?_⟩
  refine q1 M al σ H δ ω _ S (post_mono (fun x H1 h1 => ?_) (post_bind (rel := relE X.K M al) h))
  obtain ⟨d1, ω1, e1, S1, f1, r1, h1⟩ := h1
  cases r1 <;> first | exact ⟨_, rfl, h1 _ _ S1 f1 rfl⟩ | exact h1.elim
structure OpS (K : PySem.W.Frag) (r : V → Option Int → Option Int → Hp → VK → Prop) (g : D → Option Int → Option Int → Option D) : Prop where
  ok : ∀ sa N H x a lo hi d Q, Rep K sa N H x a → g a lo hi = some d → (∀ b, N b → Tr H b) → (∀ v H', Same H H' → Rep K sa N H' v d → Q v H') → r x lo hi H Q
theorem OpS.or {r r' : V → Option Int → Option Int → Hp → VK → Prop} {g g' : D → Option Int → Option Int → Option D} (h : OpS K r g) (h' : OpS K r' g') : OpS K (fun x lo hi H Q => r x lo hi H Q ∨ r' x lo hi H Q) (fun a lo hi => (g a lo hi).or (g' a lo hi)) := ⟨fun sa N H x a lo hi d Q ra e nt k => by
  cases q : g a lo hi with
  | some z =>
    rw [q] at e
    exact .inl (h.ok sa N H x a lo hi d Q ra (by rw [q]; exact e) nt k)
  | none =>
    rw [q] at e
    exact .inr (h'.ok sa N H x a lo hi d Q ra e nt k)⟩
def eSl (g : D → Option Int → Option Int → Option D) (fa : EvE) (fl fu : EvO) : EvE := fun δ ω => (fa δ ω).bind fun d ω1 => (fl δ ω1).bind fun lo ω2 => (fu δ ω2).bind fun hi ω3 => rs1 (g d lo hi) ω3
theorem pd_slice {e : Expr} {fa : EvE} {lo hi : Option Expr} {fl fu : EvO} {p2 pos : Pos} {r : V → Option Int → Option Int → Hp → VK → Prop} {g : D → Option Int → Option Int → Option D} (hr : SlR X r) (hg : OpS X.K r g) (he : PEd X W e fa) (hl : POd X W lo fl) (hu : POd X W hi fu) :
    PEd X W (.Subscript e (.Slice lo hi none p2) pos) (eSl g fa fl fu) := by
  obtain ⟨t, p1, q1⟩ := he.ex
  obtain ⟨t2, p2, q2⟩ := hl.ex
  obtain ⟨t3, p3, q3⟩ := hu.ex
  refine ⟨_, pe_slice hr p1 p2 p3, fun M al σ H δ ω Q S h => ?_⟩
  refine q1 M al σ H δ ω _ S (post_mono (fun x H1 h1 => ?_) (post_bind (rel := relE X.K M al) h))
  obtain ⟨d1, ω1, _, S1, f1, r1, h1⟩ := h1
  refine q2 M al σ H1 δ ω1 _ S1 (post_mono (fun y H2 h2 => ?_) (post_bind (rel := fun _ a b => a = b) (post_from f1 h1)))
  obtain ⟨d2, ω2, _, S2, f2, rfl, h2⟩ := h2
  refine q3 M al σ H2 δ ω2 _ S2 (post_mono (fun z H3 h3 => ?_) (post_bind (rel := fun _ a b => a = b) (post_from f2 h2)))
  obtain ⟨d3, ω3, _, S3, f3, rfl, h3⟩ := h3
  unfold rs1 at h3
  split at h3
  · rename_i d e
    exact hg.ok M.sa (NA M.N al) H3 x d1 y z d Q (r1.mono (f2.trans f3) S1.zna) e S3.naT fun v H' s q => h3 v H' (S3.same s) (f3.trans (.same s)) q
  · exact h3.elim
def cutD (ds : List D) (lo hi : Option Int) : List D := (ds.drop (HT.sIx ds.length 0 lo)).take (HT.sIx ds.length ds.length hi - HT.sIx ds.length 0 lo)
theorem cut_reps {sa : Addr} {N : Addr → Prop} {H : Hp} {xs : List V} {ds : List D} (lo hi : Option Int) (r : Reps K sa N H xs ds) : Reps K sa N H (cutV xs lo hi) (cutD ds lo hi) := by
  unfold cutV cutD
  rw [r.len]
  exact (r.drop _).take _
def gSlT : D → Option Int → Option Int → Option D
  | .tup ds, lo, hi => some (.tup (cutD ds lo hi))
  | _, _, _ => none
def gSlL : D → Option Int → Option Int → Option D
  | .lst ds, lo, hi => some (.lst (cutD ds lo hi))
  | _, _, _ => none
def gSlS : D → Option Int → Option Int → Option D
  | .str z, lo, hi => if z.length ≤ sizeLine then some (.str (cutS z lo hi)) else none
  | _, _, _ => none
theorem cutV_whole {xs : List V} {lo hi : Option Int} (h : HT.sIx xs.length 0 lo = 0 ∧ HT.sIx xs.length xs.length hi = xs.length) : cutV xs lo hi = xs := by
  unfold cutV
  rw [h.1, h.2, List.drop_zero, Nat.sub_zero, List.take_length]
theorem ops_slT : OpS K (rSlA K) gSlT := ⟨fun sa N H x a lo hi d Q ra e nt k => by
  unfold gSlT at e
  split at e
  · cases ra with
    | tup h l r =>
      cases e
      have rc := cut_reps lo hi r
      refine ⟨_, _, rfl, h, fun hw => k _ _ (Same.refl _) ?_, fun _ p hp => k _ _ (same_upd hp) (.tup (SqT.of upd_same) (Nat.le_trans (cutV_length _ _ _) l) (same_reps (same_upd hp) rc))⟩
      rw [cutV_whole hw] at rc
      exact .tup h l rc
  · cases e⟩
theorem ops_slL : OpS K (rSlL K) gSlL := ⟨fun sa N H x a lo hi d Q ra e nt k => by
  unfold gSlL at e
  split at e
  · cases ra with
    | lst h n l r =>
      cases e
      exact ⟨_, _, rfl, SqL.of h, fun p hp => k _ _ (same_upd hp) (new_ok nt hp (Nat.le_trans (cutV_length _ _ _) l) (cut_reps lo hi r))⟩
  · cases e⟩
theorem ops_slS : OpS K rSlS gSlS := ⟨fun sa N H x a lo hi d Q ra e nt k => by
  unfold gSlS at e
  split at e
  · cases ra
    split at e
    · rename_i hl
      cases e
      exact ⟨_, rfl, hl, k _ _ (Same.refl _) (.str _)⟩
    · cases e
  · cases e⟩
def gSl : D → Option Int → Option Int → Option D := fun a lo hi => (gSlT a lo hi).or ((gSlL a lo hi).or (gSlS a lo hi))
theorem sl_any : SlR X (fun x lo hi H Q => rSlA X.K x lo hi H Q ∨ rSlL X.K x lo hi H Q ∨ rSlS x lo hi H Q) := sl_tupA.or (sl_list.or sl_str)
theorem ops_sl : OpS K (fun x lo hi H Q => rSlA K x lo hi H Q ∨ rSlL K x lo hi H Q ∨ rSlS x lo hi H Q) gSl := ops_slT.or (ops_slL.or ops_slS)
/-- a + b -/
def gAdd : D → D → Option D := fun a b => (gII (fun i j => .int (i + j)) a b).or ((gAddS a b).or ((gAddL a b).or (gAddT a b)))
abbrev rAddA (K : PySem.W.Frag) : R2 := fun x y H Q => rI0 (fun i j => .int (i + j)) x y H Q ∨ (fun x y H Q => ∃ i j, x = .str i ∧ y = .str j ∧ i.length + j.length ≤ sizeLine ∧ Q (.str (i ++ j)) H) x y H Q ∨ rCat x y H Q ∨ rCatA K x y H Q
theorem op_addA : OpR X (binaryOp .Add) (rAddA X.K) := op_add.or (op_add_str.or (op_cat.or op_catA))
theorem op2_add : Op2 K (rAddA K) gAdd := (op2_I0 fun _ _ _ _ _ => .int _).or (op2_addS.or (op2_addL.or op2_addT))
/-! ### len, tuple, list -/
def gLen : List D → Option D
  | [.str z] => if z.length ≤ sizeLine then some (.int z.length) else none
  | [.tup ds] => some (.int ds.length)
  | [.lst ds] => some (.int ds.length)
  | [.scr ns] => some (.int ns.length)
  | _ => none
theorem Reps.one {sa : Addr} {N : Addr → Prop} {H : Hp} {xs : List V} {d : D} (r : Reps K sa N H xs [d]) : ∃ v, xs = [v] ∧ Rep K sa N H v d := by
  cases r with
  | cons r rs => cases rs; exact ⟨_, rfl, r⟩
theorem opn_len : OpN K (fun xs H Q => ∃ x n, xs = [x] ∧ LenV K x H n ∧ Q (.int n) H) gLen := ⟨fun sa N H xs as d Q r e nt k => by
  unfold gLen at e
  split at e
  · obtain ⟨v, rfl, r1⟩ := r.one
    cases r1
    split at e
    · rename_i hl
      cases e
      exact ⟨_, _, rfl, ⟨hl, rfl⟩, k _ _ (Same.refl _) (.int _)⟩
    · cases e
  · obtain ⟨v, rfl, r1⟩ := r.one
    cases r1 with
    | tup h l r =>
      cases e
      exact ⟨_, _, rfl, .inr ⟨_, h, r.len.symm⟩, k _ _ (Same.refl _) (.int _)⟩
  · obtain ⟨v, rfl, r1⟩ := r.one
    cases r1 with
    | lst h n l r =>
      cases e
      exact ⟨_, _, rfl, .inl ⟨_, SqL.of h, r.len.symm⟩, k _ _ (Same.refl _) (.int _)⟩
  · obtain ⟨v, rfl, r1⟩ := r.one
    cases e
    cases r1 with
    | scr h l => exact ⟨_, _, rfl, .inl ⟨_, h.sq, by rw [List.length_map]⟩, k _ _ (Same.refl _) (.int _)⟩
    | scrL h n l => exact ⟨_, _, rfl, .inl ⟨_, SqL.of h, by rw [List.length_map]⟩, k _ _ (Same.refl _) (.int _)⟩
  · cases e⟩
def gTuple : List D → Option D
  | [.tup ds] => some (.tup ds)
  | [.lst ds] => some (.tup ds)
  | _ => none
theorem opn_tuple : OpN K (fun xs H Q => ∃ p ys, xs = [.ref p] ∧ ((SqL K H p ys ∧ ∀ l, H l = none → Q (.ref l) (upd H l (.tup ys))) ∨ (SqT K H p ys ∧ Q (.ref p) H))) gTuple := ⟨fun sa N H xs as d Q r e nt k => by
  unfold gTuple at e
  split at e
  · obtain ⟨v, rfl, r1⟩ := r.one
    cases r1 with
    | tup h l r =>
      cases e
      exact ⟨_, _, rfl, .inr ⟨h, k _ _ (Same.refl _) (.tup h l r)⟩⟩
  · obtain ⟨v, rfl, r1⟩ := r.one
    cases r1 with
    | lst h n l r =>
      cases e
      exact ⟨_, _, rfl, .inl ⟨SqL.of h, fun p hp => k _ _ (same_upd hp) (.tup (SqT.of upd_same) l (same_reps (same_upd hp) r))⟩⟩
  · cases e⟩
def gList : List D → Option D
  | [.tup ds] => some (.lst ds)
  | [.lst ds] => some (.lst ds)
  | _ => none
theorem opn_list : OpN K (fun xs H Q => ∃ p ys, xs = [.ref p] ∧ (SqL K H p ys ∨ SqT K H p ys) ∧ ∀ l, H l = none → Q (.ref l) (upd H l (.lst ys))) gList := ⟨fun sa N H xs as d Q r e nt k => by
  unfold gList at e
  split at e
  · obtain ⟨v, rfl, r1⟩ := r.one
    cases r1 with
    | tup h l r =>
      cases e
      exact ⟨_, _, rfl, .inr h, fun p hp => k _ _ (same_upd hp) (new_ok nt hp l r)⟩
  · obtain ⟨v, rfl, r1⟩ := r.one
    cases r1 with
    | lst h n l r =>
      cases e
      exact ⟨_, _, rfl, .inl (SqL.of h), fun p hp => k _ _ (same_upd hp) (new_ok nt hp l r)⟩
  · cases e⟩
/-- all([..]), any([..]) of a list of truth values -/
def blsOf : List D → Option (List Bool)
  | [] => some []
  | .bl b :: ds => (blsOf ds).map (b :: ·)
  | _ => none
theorem bls_reps {sa : Addr} {N : Addr → Prop} {H : Hp} : ∀ {xs : List V} {ds : List D} {bs : List Bool}, Reps K sa N H xs ds → blsOf ds = some bs → xs = bs.map V.bl
  | _, _, _, .nil, e => by cases e; rfl
  | _, _, _, .cons (d := .bl b) (ds := ds) r rs, e => by
    unfold blsOf at e
    cases q : blsOf ds with
    | none => rw [q] at e; cases e
    | some bs =>
      rw [q] at e
      cases e
      cases r
      rw [bls_reps rs q]
      rfl
  | _, _, _, .cons (d := .non) r rs, e => by cases e
  | _, _, _, .cons (d := .int _) r rs, e => by cases e
  | _, _, _, .cons (d := .str _) r rs, e => by cases e
  | _, _, _, .cons (d := .tup _) r rs, e => by cases e
  | _, _, _, .cons (d := .lst _) r rs, e => by cases e
  | _, _, _, .cons (d := .scr _) r rs, e => by cases e
  | _, _, _, .cons (d := .st) r rs, e => by cases e
  | _, _, _, .cons (d := .exc _ _) r rs, e => by cases e
  | _, _, _, .cons (d := .ty _) r rs, e => by cases e
  | _, _, _, .cons (d := .glo _) r rs, e => by cases e
def gAll : List D → Option D
  | [.lst ds] => (blsOf ds).map fun bs => .bl (bs.all id)
  | _ => none
def gAny : List D → Option D
  | [.lst ds] => (blsOf ds).map fun bs => .bl (bs.any id)
  | _ => none
theorem opn_all : OpN K (rAll K) gAll := ⟨fun sa N H xs as d Q r e nt k => by
  unfold gAll at e
  split at e
  · rename_i ds
    obtain ⟨v, rfl, r1⟩ := r.one
    cases r1 with
    | lst h n l r =>
      cases q : blsOf ds with
      | none => rw [q] at e; cases e
      | some bs =>
        rw [q] at e
        cases e
        rw [bls_reps r q] at h
        exact ⟨_, bs, rfl, SqL.of h, k _ _ (Same.refl _) (.bl _)⟩
  · cases e⟩
theorem opn_any : OpN K (rAny K) gAny := ⟨fun sa N H xs as d Q r e nt k => by
  unfold gAny at e
  split at e
  · rename_i ds
    obtain ⟨v, rfl, r1⟩ := r.one
    cases r1 with
    | lst h n l r =>
      cases q : blsOf ds with
      | none => rw [q] at e; cases e
      | some bs =>
        rw [q] at e
        cases e
        rw [bls_reps r q] at h
        exact ⟨_, bs, rfl, SqL.of h, k _ _ (Same.refl _) (.bl _)⟩
  · cases e⟩
def intsOf : List D → Option (List Int)
  | [] => some []
  | .int b :: ds => (intsOf ds).map (b :: ·)
  | _ => none
theorem ints_of_reps {sa : Addr} {N : Addr → Prop} {H : Hp} : ∀ {xs : List V} {ds : List D} {bs : List Int}, Reps K sa N H xs ds → intsOf ds = some bs → xs = bs.map V.int
  | _, _, _, .nil, e => by cases e; rfl
  | _, _, _, .cons (d := .int b) (ds := ds) r rs, e => by
    unfold intsOf at e
    cases q : intsOf ds with
    | none => rw [q] at e; cases e
    | some bs =>
      rw [q] at e
      cases e
      cases r
      rw [ints_of_reps rs q]
      rfl
  | _, _, _, .cons (d := .non) r rs, e => by cases e
  | _, _, _, .cons (d := .bl _) r rs, e => by cases e
  | _, _, _, .cons (d := .str _) r rs, e => by cases e
  | _, _, _, .cons (d := .tup _) r rs, e => by cases e
  | _, _, _, .cons (d := .lst _) r rs, e => by cases e
  | _, _, _, .cons (d := .scr _) r rs, e => by cases e
  | _, _, _, .cons (d := .st) r rs, e => by cases e
  | _, _, _, .cons (d := .exc _ _) r rs, e => by cases e
  | _, _, _, .cons (d := .ty _) r rs, e => by cases e
  | _, _, _, .cons (d := .glo _) r rs, e => by cases e
def gSum : List D → Option D
  | [.lst ds] => (intsOf ds).map fun bs => .int bs.sum
  | _ => none
theorem opn_sum : OpN K (rSum K) gSum := ⟨fun sa N H xs as d Q r e nt k => by
  unfold gSum at e
  split at e
  · rename_i ds
    obtain ⟨v, rfl, r1⟩ := r.one
    cases r1 with
    | lst h n l r =>
      cases q : intsOf ds with
      | none => rw [q] at e; cases e
      | some bs =>
        rw [q] at e
        cases e
        rw [ints_of_reps r q] at h
        exact ⟨_, bs, rfl, SqL.of h, k _ _ (Same.refl _) (.int _)⟩
  · cases e⟩
/-! ### isinstance -/
def gIsi : List D → Option D
  | [d, .ty T] => match d with
    | .non => some (.bl (T == "NoneType"))
    | .bl _ => some (.bl (T == "bool" || T == "int"))
    | .int _ => some (.bl (T == "int"))
    | .str _ => some (.bl (T == "str"))
    | .tup _ => some (.bl (T == "tuple"))
    | .lst _ => some (.bl (T == "list"))
    | _ => none
  | _ => none
end
end DL

namespace DL
open PySem PySem.Spec PyProof.Rows L2
section
variable {X : Cx} {W : Wt} {pos : Pos}
/-! ### raise C() -/
theorem pmk_own0 {C : Addr} {x : Str} {p : Pos} (q : PySem.W.excIn X.K C He.veBase "ValueError.__new__" = true) (gC : X.mg x = some (.ref C)) (kC : PySem.W.keepIn X.K (.ref C) = true) (r : Raises X (.ref C)) (hg : Gl X x) (hdb : (x == ("__debug__" : Str)) = false) :
    PMk X (.Call (.Name x p) [] [] pos) (fun _ H Q => Q (.ref C) none H) := fun pins s σ H Q I h => by
  refine wpAny_Call_Name_kw (ld_glob I hg gC ?_ hdb)
  refine PySem.W.callWith_K0 I.kIn kC ?_
  obtain ⟨bm, N, nm, qn, bs, hdct, sn, sub, ab, col, dd, k0, k1, k2, k3, k5, mN, hC, hN, hni, T⟩ := exc_obj I.kIn q
  obtain ⟨h0, g0, d0, t0, o0⟩ := s
  exact wpAny_call_exc_subT PySem.F.excBase_ValueError T hC hN hni (fun h' e hm => mk_of I hm r h (I.hok.gone hm.new)) (Nat.zero_le _)
def sRaise0 (c : Str) : EvS := fun _ ω => .err (c, []) ω
theorem sd_raise0 {x : Str} {p pos2 : Pos} (hc : X.calm = true) (tk : Takes X (fun cls d _ H => W.w cls d H)) (q : PySem.W.excIn X.K (He.ga X.K x) He.veBase "ValueError.__new__" = true) (gC : X.mg x = some (.ref (He.ga X.K x))) (kC : PySem.W.keepIn X.K (.ref (He.ga X.K x)) = true)
    (r : Raises X (.ref (He.ga X.K x))) (hg : Gl X x := by rfl) (hdb : (x == ("__debug__" : Str)) = false := by decide) : PSd X W (.Raise (some (.Call (.Name x p) [] [] pos)) none pos2) (sRaise0 x) := by
  refine ⟨_, ps_raise hc tk (pmk_own0 q gC kC r hg hdb), fun M al σ H δ ω D S h => ?_⟩
  exact h _ _ H S.fr S.g ⟨rfl, .inl ⟨rfl, rfl⟩⟩
/-! ### an exception that is kept behind its suite -/
theorem Inv.keepEx {pins : List (Addr × Obj)} {σ : L2.St} {H : Hp} {s : Shared} {a : Addr} {oe : Obj} {vs : Array Value} {cls : Value} {d : Option Addr} (I : Inv X ((a, oe) :: pins) σ H s) (hx : X.ex = []) (hp : ∀ p ∈ X.pn ++ pins, p.1 ≠ a) (h0 : X.s_0.heap.get? a = none)
    (hc : ∀ x c, X.env.cells.lookup x = some c → c ≠ a) (hz : Zc cls d oe) (hd : oe.data = .fields vs) : Inv X pins σ (upd H a (ExV cls d a)) s := by
  obtain ⟨e, n, ne, nf, dd⟩ := I.pin (a, oe) (List.mem_append_right _ List.mem_cons_self)
  have nx : ∀ b, b ∉ X.ex := fun b hb => by rw [hx] at hb; cases hb
  have up : ∀ b, b ≠ a → upd H a (ExV cls d a) b = H b := fun b hb => upd_ne hb
  have un : ∀ b o, X.s_0.heap.get? b = some o → b ≠ a := fun b o e z => by rw [z, h0] at e; cases e
  have nH : ∀ {b : Addr} {o : HO}, H b = some o → b ≠ a := fun e z => by rw [z, n] at e; cases e
  refine ⟨I.ok, I.os, I.bare, ⟨I.base.keep, I.base.slot, fun b o e1 e2 e3 => ?_, I.base.there, fun b xs e1 => ?_, fun b o u e1 => ?_, fun b ps e1 => ?_⟩, I.loc, I.cell, ?_, fun x c e1 => ?_, fun p hm => ?_, fun b o e1 => ?_, I.len⟩
  · rw [up b (un b o e1)]
    exact I.base.free b o e1 e2 e3
  · have z := I.base.tups b xs e1
    rw [up b (nH z)]
    exact z
  · have z := I.base.frzs b o u e1
    rw [up b (nH z)]
    exact z
  · obtain ⟨m, z⟩ := I.base.tbls b ps e1
    exact ⟨m, by rw [up b (nH z)]; exact z⟩
  · rw [up _ (Ne.symm ne)]
    exact I.free
  · rw [up _ (hc x c e1)]
    exact I.freeC x c e1
  · obtain ⟨q1, q2, q3⟩ := I.pin p (by
      rcases List.mem_append.mp hm with z | z
      · exact List.mem_append_left _ z
      · exact List.mem_append_right _ (List.mem_cons_of_mem _ z))
    exact ⟨q1, by rw [up _ (hp p hm)]; exact q2, q3⟩
  · by_cases hb : b = a
    · subst hb
      rw [upd_same] at e1
      cases e1
      exact ⟨⟨oe, vs, e, hz, hd⟩, ⟨oe, e⟩, fun h1 h2 ⟨o', v', q1, q2⟩ k => ⟨o', v', k _ q1, q2⟩⟩
    · rw [up b hb] at e1
      exact (I.hok b o e1).stay (fun _ _ _ q => q) (fun c q => by rw [up c (nH q)]; exact q) fun c xs q => by rw [up c (nH q)]; exact q
/-- what «except x as n» wishes, if its exception is to be known behind the suite, too -/
def wKeep (K : PySem.W.Frag) (c : Value) (i : Nat) (ts : Addr → Value → Option Addr → TS) (Wo : WX) (D : Ends) : WX := fun cls d σ H => ∃ b, PySem.W.exmOne K cls c = some b ∧
  (b = true → ∀ a, H a = none → ts a cls d ⟨fun σ1 H1 => D.nx (σ1.set i none) (upd H1 a (ExV cls d a)), fun v H1 => D.rt v (upd H1 a (ExV cls d a)), fun σ1 H1 => D.bk (σ1.set i none) (upd H1 a (ExV cls d a)), fun σ1 H1 => D.ct (σ1.set i none) (upd H1 a (ExV cls d a))⟩ (σ.set i (some (.ref a))) H) ∧
  (b = false → Wo cls d σ H)
theorem ps_try_keep {x n : Str} {c : Value} {i : Nat} {body suite : List Stmt} {st0 : Stmt} {np pe : Pos} {tb : WX → TS} {ts : Addr → Value → Option Addr → TS} {Wo : WX} (hs : X.stack = X.env :: X.outer) (hf : X.env.frame = some X.env.locals) (hex : X.ex = []) (hN : X.N.Nodup) (hi : X.N[i]? = some n) (hln : X.env.kindOf n = some .local)
    (hc : Names X x c) (tk : Takes X Wo) (hb : ∀ (W : WX) (pn : List (Addr × Obj)) (xe : Value → Shared → Prop), Takes (X.tr pn xe) W → PassesOwn (model X.prog X.w) X.A X.env xe → PSs (X.tr pn xe) body (tb W))
    (hsu : ∀ (a : Addr) (oe : Obj) (cls : Value) (d : Option Addr) (pn : List (Addr × Obj)), Zc cls d oe → (∃ vs, oe.data = .fields vs) → PSs (X.suite a ((a, oe) :: pn)) (st0 :: suite) (ts a cls d)) :
    PS X (.Try body [.ExceptHandler (some (.Name x np)) (some n) (st0 :: suite) pe] [] [] pos) (fun D σ H => tb (wKeep X.K c i ts Wo D) D σ H) := by
  refine ⟨fun ps s0 σ0 H0 D I0 hw => ?_⟩
  have okX := I0.ok
  have frX : X.A.frames = some (X.env :: X.outer) := okX.frames.trans (congrArg some hs)
  -- behind the body
  have good : ∀ f s1, SP (X.tr (X.pn ++ ps) (fun e s₁ => wpAny (model X.prog X.w) X.A (noteFrame e X.env) (fun _ s₂ => wpAny (model X.prog X.w) X.A (setFlight e none) (fun _ s₃ =>
      wpAny (model X.prog X.w) X.A (handleBy e X.env [.ExceptHandler (some (.Name x np)) (some n) (st0 :: suite) pe]) (SP X ps D) X.xe s₃) X.xe s₂) X.xe s₁)) [] D f s1 → (match f with | .next => wpAny (model X.prog X.w) X.A (execs [] X.env) (SP X ps D) X.xe s1 | fl => SP X ps D fl s1) := fun f s1 q => by
    cases f with
    | next => obtain ⟨σ1, H1, J1, q⟩ := q; exact wpAny_execs_nil ⟨σ1, H1, J1.ofTry okX, q⟩
    | brk => obtain ⟨σ1, H1, J1, q⟩ := q; exact ⟨σ1, H1, J1.ofTry okX, q⟩
    | cont => obtain ⟨σ1, H1, J1, q⟩ := q; exact ⟨σ1, H1, J1.ofTry okX, q⟩
    | ret u => obtain ⟨v, σ1, H1, J1, r, q⟩ := q; exact ⟨v, σ1, H1, J1.ofTry okX, r, q⟩
  refine wpAny_Try_except (wpAny_mono ((hb (wKeep X.K c i ts Wo D) (X.pn ++ ps) _ (fun u s1 ax => ?_) PassesOwn.looking).run [] s0 σ0 H0 D (I0.toTry _) hw) (fun f s1 q => ?_) fun _ _ z => z)
  case refine_2 =>
    have z := good f s1 q
    cases f <;> exact z
  -- an exception has come
  obtain ⟨a, B, sI, qs, σ1, H1, cls, d, rfl, JT, nb, up, sky, na, os, ag, b, eb, yes, no⟩ := ax
  have J : Inv X ps σ1 H1 sI := JT.ofTry okX
  rw [show (X.tr (X.pn ++ ps) _).stack = X.env :: X.outer from hs] at sky nb
  show wpAny (model X.prog X.w) X.A (noteFrame (.ref a) X.env) _ _ s1
  refine Sky.land Zc.steady frX hf sky fun g1 fly1 u1 => ?_
  have nbX : ∀ b o, sI.heap.get? b = some o → b ∉ frs X.stack → B.get? b = some o := by rw [hs]; exact nb
  have J1 : Inv X ps σ1 H1 { s1 with heap := g1 } := J.landed nbX fly1.1 (up.trans u1) os ag
  obtain ⟨ob1, vs1, he1, hz1, hd1⟩ := fly1.there
  have out : a ∉ frs (X.env :: X.outer) := fun hm => by
    obtain ⟨_, o', e', hn⟩ := fly1.2.2.1.mem hm
    rw [he1] at e'
    cases e'
    exact hn _ hd1
  have aL : a ≠ X.env.locals := fun z => out (List.mem_filterMap.mpr ⟨X.env, List.mem_cons_self, by rw [hf, z]⟩)
  have aF : a ∉ X.fs := fun hm => by
    obtain ⟨ev, h1, h2⟩ := List.mem_filterMap.mp hm
    exact out (List.mem_filterMap.mpr ⟨ev, List.mem_cons_of_mem _ h1, h2⟩)
  -- it is new to the def
  have newI : sI.heap.get? a = none := by
    cases q : sI.heap.get? a with
    | none => rfl
    | some o =>
      have z := nb a o q out
      rw [fly1.2.1] at z
      cases z
  have new0 : X.s_0.heap.get? a = none := by
    cases q : X.s_0.heap.get? a with
    | none => rfl
    | some o =>
      obtain ⟨o', z⟩ := J.base.there a o q (by rw [hex]; exact fun z => nomatch z)
      rw [newI] at z
      cases z
  have pinA : ∀ p ∈ X.pn ++ ps, p.1 ≠ a := fun p hp z => by
    have q := (J.pin p hp).1
    rw [z, newI] at q
    cases q
  have cellA : ∀ y k, X.env.cells.lookup y = some k → k ≠ a := fun y k e z => by
    obtain ⟨_, o, q, _⟩ := J.cell y k e
    rw [z, newI] at q
    cases q
  have T1 := J1.suite he1 hd1 na aL aF
  refine wpAny_handleBy_cons (codeAny_handlers_test ?_) (by intro q; cases q)
  have tyA : PySem.W.Looks (model X.prog X.w) g1 (typeOf (.ref a)) cls := fun _ _ _ _ k q => wpAny_typeOf_ref (k _ _ he1) (by rw [hz1.1]; exact q)
  have mat := PySem.W.exm_one (M := model X.prog X.w) (J1.kIn) tyA eb
  have named : ∀ {Q E : Value → Shared → Prop}, Q c { s1 with heap := g1 } → wpAny (model X.prog X.w) (X.A.mark (some (.ref a))) (eval (.Name x np) X.env) Q E { s1 with heap := g1 } := fun q => by
    rcases hc with ⟨gl, dbg, m | ⟨m, v, nn⟩⟩
    · exact ld_glob (X := X.suite a ((a, ob1) :: (X.pn ++ ps))) T1 gl m q dbg
    · exact ld_blt (X := X.suite a ((a, ob1) :: (X.pn ++ ps))) T1 gl m v q nn dbg
  refine named (mat.here ?_)
  cases b with
  | true =>
    refine codeAny_handlers_suite_as (HandSPX.lands_againZ fly1 fun g2 fly2 u2 => ?_)
    have J2 : Inv X ps σ1 H1 { s1 with heap := g2 } := J.landed nbX fly2.1 ((up.trans u1).trans u2) os ag
    obtain ⟨ob2, vs2, he2, hz2, hd2⟩ := fly2.there
    refine store_ok (X := X.suite a ((a, ob2) :: (X.pn ++ ps))) (v := .ref a) (J2.suite he2 hd2 na aL aF) hN hi (Or.inl hln) rfl (fun s3 T3 => ?_) (.inr hln)
    refine wpAny_mono ((hsu a ob2 cls d (X.pn ++ ps) hz2 ⟨_, hd2⟩).run [] s3 _ H1 _ T3 (yes rfl a na)) (fun f s4 q => ?_) fun _ _ z => z.elim
    have fin : ∀ {σ4 : L2.St} {H4 : Hp} {Q : Shared → Prop}, Inv (X.suite a ((a, ob2) :: (X.pn ++ ps))) [] σ4 H4 s4 → (∀ s5, Inv X ps (σ4.set i none) (upd H4 a (ExV cls d a)) s5 → Q s5) →
        wpAny (model X.prog X.w) X.A (do bindName X.env n .none; unbindBehindTheSuite X.env n pe) (fun _ s5 => Q s5) X.xe s4 := fun {σ4 H4 Q} T4 hq => by
      have J4 : Inv X ((a, ob2) :: ps) σ4 H4 s4 := ⟨okX, T4.os, T4.bare, T4.base, T4.loc, T4.cell, T4.free, T4.freeC, fun p hp => T4.pin p (by
        rcases List.mem_append.mp hp with z | z
        · exact List.mem_append_left _ (List.mem_cons_of_mem _ (List.mem_append_left _ z))
        · rcases List.mem_cons.mp z with z | z
          · rw [z]; exact List.mem_append_left _ List.mem_cons_self
          · exact List.mem_append_left _ (List.mem_cons_of_mem _ (List.mem_append_right _ z))), T4.hok, T4.len⟩
      exact gone_ok J4 hN hi hln fun s5 J5 => hq s5 (Inv.keepEx J5 hex pinA new0 cellA hz2 hd2)
    cases f with
    | next => obtain ⟨σ4, H4, T4, q⟩ := q; exact fin T4 fun s5 J5 => ⟨_, _, J5, q⟩
    | brk => obtain ⟨σ4, H4, T4, q⟩ := q; exact fin T4 fun s5 J5 => ⟨_, _, J5, q⟩
    | cont => obtain ⟨σ4, H4, T4, q⟩ := q; exact fin T4 fun s5 J5 => ⟨_, _, J5, q⟩
    | ret u => obtain ⟨v, σ4, H4, T4, r, q⟩ := q; exact fin T4 fun s5 J5 => ⟨_, _, _, J5, r, q⟩
  | false =>
    show wpAny _ X.A (handleBy (.ref a) X.env []) _ _ _
    refine wpAny_handleBy_nil ?_
    obtain ⟨_, _, _, oe, vs, T, _, _, he, _, hd, h1, _⟩ := id fly1
    unfold PySem.passOn
    refine wpAny_bind (wpAny_field he hd h1 ?_)
    rw [if_neg (show ¬ ((Value.ref T == Value.none) = true) from by simp)]
    have go : wpAny (model X.prog X.w) X.A (setFlight (.ref a) X.env.frame) (fun _ s4 => wpAny (model X.prog X.w) X.A (throw (.ref a) : Sem Flow) (SP X ps D) X.xe s4) X.xe { s1 with heap := g1 } := by
      rw [hf]
      refine HandSPX.setFlight_upZ fly1 fun g2 hold u2 => wpAny_throw (tk _ _ ⟨a, B, sI, ps, σ1, H1, cls, d, rfl, J, nbX, (up.trans u1).trans u2, .inr (.inr (by rw [hs]; exact hold)), na, os, ag, no rfl⟩)
    first
      | exact wpAny_bind (wpAny_pure (wpAny_bind go))
      | exact wpAny_bind go
end
end DL

namespace DL
open PySem PySem.Spec PyProof.Rows L2 LamX
section
variable {X : Cx} {W : Wt} {pos : Pos} {K : PySem.W.Frag}
/-! ### the def that calls what it got and hands back the error of the package -/
def cgScope : Scope := { kind := .function, names := [("work", .local), ("caught", .local), ("error", .local), ("LeafError", .globalImplicit)], isGenerator := false, isCoroutine := false, more := [] }
def cgBody (p1 p2 p3 p4 p5 p6 p7 p8 p9 p10 p11 p12 p13 p14 : Pos) (k : Nat) : List Stmt :=
  [.Assign [.Name "caught" p1] (.Constant .none k p2) p3, .Try [.Expr (.Call (.Name "work" p4) [] [] p5) p6] [.ExceptHandler (some (.Name "LeafError" p7)) (some "error") [.Assign [.Name "caught" p8] (.Name "error" p9) p10] p11] [] [] p12, .Return (some (.Name "caught" p13)) p14]
abbrev cgNames : List Str := ["work", "caught", "error"]
theorem cgSc : FnScope cgNames ["work"] cgScope := ⟨rfl, rfl, rfl, by decide +kernel, rfl, by decide +kernel, by decide +kernel⟩
/-- told: None, or the error -/
def TTc (K : PySem.W.Frag) (CS : Addr) : (XK → Hp → VK → Prop) → Hp → VK → Prop := fun tl H Q =>
  ∀ Q' : VK, (∀ v H', Q .non H' → Q' v H') → tl (fun cls d H' => ∃ b, PySem.W.exmOne K cls (.ref CS) = some b ∧ (b = true → ∀ a, H' a = none → Q (.ref a) (upd H' a (ExV cls d a))) ∧ (b = false → False)) H Q' 
theorem takes_len {W' : WX} (tk : Takes X W') : Takes X (fun cls d σ H => σ.length = X.N.length → W' cls d σ H) := fun u s' ⟨a, B, sI, ps, σ, H, cls, d, e, I, nb, up, sky, na, os, ag, w⟩ => tk u s' ⟨a, B, sI, ps, σ, H, cls, d, e, I, nb, up, sky, na, os, ag, w I.len⟩
theorem caught_gives {q : Str} {g CS : Addr} {cdg : Value} {k : Nat} {p1 p2 p3 p4 p5 p6 p7 p8 p9 p10 p11 p12 p13 p14 : Pos} (hm : X.mg "LeafError" = some (.ref CS)) (hl : (p8.line == p10.line) = true := by rfl) :
    GivesTo X cgNames "_law_caught" cgScope g cdg (cgBody p1 p2 p3 p4 p5 p6 p7 p8 p9 p10 p11 p12 p13 p14 k) "work" q (TTc X.K CS) := by
  intro f c' s H Q tl act hc h
  refine ⟨_, pss_cons (ps_set (i := 1) cgSc.nd rfl (Or.inl rfl) pe_non) (pss_cons (ps_try_keep (c := .ref CS) (i := 2) (ts := fun _ _ _ => tAsg (tVar 2) (gName 1)) (Wo := fun _ _ _ _ => False)
      (tb := fun W' D σ H1 => ∃ Ex : XK, (∀ cls d (σ' : L2.St) H', σ'.length = 3 → Ex cls d H' → W' cls d σ' H') ∧ σ[0]? = some (some (.ref f)) ∧ H1 c' = some (CodeO c' q) ∧ tl Ex H1 (fun _ H2 => D.nx σ H2))
      rfl rfl rfl cgSc.nd rfl rfl ⟨rfl, by decide, .inl hm⟩ LamX.takes0 (fun W' pn xe tk _ => ?_) (fun a oe cls d pn _ _ => pss_one (ps_set (i := 1) cgSc.nd rfl (Or.inl rfl) (pv 2)))) (pss_one (ps_ret (pv 1)))), ?_⟩
  · refine ⟨fun pins s1 σ1 H1 D I1 h1 => ?_⟩
    obtain ⟨Ex, hW, h2, h3, h4⟩ := h1
    have hp := act (fun cls d σ H => σ.length = 3 → W' cls d σ H) pn xe Ex p4 p5 (takes_len tk) fun cls d σ' H' e hlen => hW cls d σ' H' hlen e
    exact (pss_one (ps_expr (pos := p6) hp)).run pins s1 σ1 H1 D I1 ⟨h2, h3, h4⟩
  · refine ⟨_, fun cls d σ' H' hlen hx => ?_, rfl, hc, h _ fun v H' q => ⟨.non, rfl, q⟩⟩
    obtain ⟨b, e1, e2, e3⟩ := hx
    refine ⟨b, e1, fun eb a na => ?_, fun eb => e3 eb⟩
    have l2 : (2 : Nat) < σ'.length := by omega
    refine ⟨.ref a, List.getElem?_set_self l2, ?_⟩
    refine ⟨.ref a, ?_, e2 eb a na⟩
    rw [List.getElem?_set_ne (by decide), List.getElem?_set_self (by rw [List.length_set]; omega)]
theorem fam_w {ι : Type} {Xi : ι → Cx} {e : Expr} {fe : EvE} (hK : ∀ i, (Xi i).K = K) (h : ∀ i, PEd (Xi i) W e fe) :
    ∃ t, (∀ M al σ H δ ω Q, DSt K W.P M al σ H δ ω → PostR K M al σ H δ (relE K M al) (fe δ ω) Q W → t σ H Q) ∧ ∀ i, PE (Xi i) e t := by
  refine ⟨fun σ H Q => ∀ i t, PE (Xi i) e t → (∀ M al σ H δ ω Q, DSt K W.P M al σ H δ ω → PostR K M al σ H δ (relE K M al) (fe δ ω) Q W → t σ H Q) → t σ H Q, fun M al σ H δ ω Q S h i t _ ht => ht M al σ H δ ω Q S h, fun i => ?_⟩
  obtain ⟨t, p, q⟩ := (h i).ex
  rw [hK i] at q
  exact ⟨fun ps s0 σ0 H0 Q0 I0 hq => p.run ps s0 σ0 H0 Q0 I0 (hq i t p q)⟩
/-- what a lambda's call hands back: None, or the error -/
def eCaught (isx : Str → Bool) (fe : EvE) : EvE := fun δ ω => match fe δ ω with
  | .ok _ ω1 => .ok .non ω1
  | .err x ω1 => if isx x.1 = true ∧ x.2.length ≤ 1 then .ok (.exc x.1 x.2) ω1 else .bad
  | .bad => .bad
theorem extN_fr {Z : Addr → Prop} {H H1 : Hp} (e : ExtN H H1) : Fr Z H H1 := ⟨fun b o h k => e b o h fun ps z => by rw [z] at k; exact k, fun b ⟨o, h, n⟩ => ⟨o, e b o h (fun ps z => by rw [z] at n; exact n), n⟩⟩
theorem pd_caught {T : List (Addr × Str)} {g c P CS : Addr} {k : Nat} {pg : Arguments} {dV kV doc pm cdv ct oc : Value} {an od : Option Addr} {osl : Array (Option Value)} {isx : Str → Bool}
    {params : Arguments} {body : Expr} {scope : Scope} {fe : EvE} {p lpos : Pos} {p1 p2 p3 p4 p5 p6 p7 p8 p9 p10 p11 p12 p13 p14 : Pos} {kk : Nat} (hm : X.mg "_law_caught" = some (.ref g)) (hk : PySem.W.keepIn X.K (.ref g) = true)
    (lk : X.K.lookup g = some ⟨oc, od, .func (PySem.W.fnOf "_law_caught" "_law_caught" pg (cgBody p1 p2 p3 p4 p5 p6 p7 p8 p9 p10 p11 p12 p13 p14 kk) cgScope dV kV doc pm an cdv ct), osl⟩) (hcg : PySem.W.codeIn X.K cdv "_law_caught" = true)
    (hb : L2.Binds X.K (PySem.W.fnOf "_law_caught" "_law_caught" pg (cgBody p1 p2 p3 p4 p5 p6 p7 p8 p9 p10 p11 p12 p13 p14 kk) cgScope dV kV doc pm an cdv ct) ["work"] []) (hL : X.mg "LeafError" = some (.ref CS))
    (hx : ∀ c, isx c = true → PySem.W.exmOne X.K (.ref (He.ga X.K c)) (.ref CS) = some true)
    (TB : TabB X.base X.mg c P) (hcode : X.env.code = .ref c) (hmT : (P, X.env.qual ++ "<lambda>") ∈ T) (hu : ∀ p ∈ T, p.1 = P → p.2 = X.env.qual ++ "<lambda>") (hr : Room (k + 2) X.A) (L : LamS X.env.scope scope)
    (hP : ∀ sa Z G, W.P sa Z G → (∀ ω H, G ω H → Tabs T H) ∧ ∀ ω H H1, G ω H → ExtN H H1 → Tabs T H1 → G ω H1)
    (hbody : ∀ (A : Around) (outer : List Env) (s : Shared) (H : Hp) (E : XK) (f c' : Addr), Room k (A.deeper (lamEnv X scope s.heap.objs.size f c')) → Takes (lamCx X A outer s H E scope f c') (fun cls d _ H => E cls d H) → PEd (lamCx X A outer s H E scope f c') ⟨E, W.P⟩ body fe)
    (hg : Gl X "_law_caught" := by rfl) (hdef : defaultsOf params X.env = ([], []) := by rfl) (hbind : ∀ (q : Str) (cl : List (Str × Addr)) (pm cv ctv : Value), bindArgs (PySem.W.kla_fn "<lambda>" q params body scope cl pm cv ctv) ⟨[], []⟩ = pure [] := by exact fun _ _ _ _ _ => rfl) (hl : (p8.line == p10.line) = true := by rfl) :
    PEd X W (.Call (.Name "_law_caught" p) [.Lambda params body scope lpos] [] pos) (eCaught isx fe) := by
  have fam : ∀ E : XK, ∃ t, (∀ M al σ H δ ω Q, DSt X.K W.P M al σ H δ ω → PostR X.K M al σ H δ (relE X.K M al) (fe δ ω) Q ⟨E, W.P⟩ → t σ H Q) ∧
      ∀ i : { z : Around × List Env × Shared × Hp × Addr × Addr // Room k (z.1.deeper (lamEnv X scope z.2.2.1.heap.objs.size z.2.2.2.2.1 z.2.2.2.2.2)) }, PE (lamCx X i.1.1 i.1.2.1 i.1.2.2.1 i.1.2.2.2.1 E scope i.1.2.2.2.2.1 i.1.2.2.2.2.2) body t := fun E =>
    fam_w (W := ⟨E, W.P⟩) (Xi := fun i : { z : Around × List Env × Shared × Hp × Addr × Addr // Room k (z.1.deeper (lamEnv X scope z.2.2.1.heap.objs.size z.2.2.2.2.1 z.2.2.2.2.2)) } => lamCx X i.1.1 i.1.2.1 i.1.2.2.1 i.1.2.2.2.1 E scope i.1.2.2.2.2.1 i.1.2.2.2.2.2) (fun _ => rfl) fun i => hbody _ _ _ _ _ _ _ i.2 (takes_of rfl rfl rfl rfl)
  obtain ⟨t, ht⟩ := Classical.axiomOfChoice fam
  refine ⟨_, pe_lamcall (t := t) (Ng := cgNames) hg hm hk lk hcg hb cgSc rfl (Or.inl rfl) (caught_gives hL hl) TB hcode hmT hu hr L hdef hbind (fun A outer s H E f c' hr' => (ht E).2 ⟨(A, outer, s, H, f, c'), hr'⟩), fun M al σ H δ ω Q S h => ?_⟩
  obtain ⟨h1, h2⟩ := hP _ _ _ S.pp
  refine ⟨h1 ω H S.g, fun H1 eN T1 Q' hQ => ?_⟩
  have fr : Fr M.Z H H1 := extN_fr eN
  have S1 : DSt X.K W.P M al σ H1 δ ω := S.go fr (h2 ω H H1 S.g eN T1)
  refine (ht _).1 M al σ H1 δ ω Q' S1 ?_
  unfold eCaught at h
  cases e : fe δ ω with
  | ok d ω1 =>
    rw [e] at h
    exact fun v H' S2 f2 r2 => hQ v H' (h .non H' S2 (fr.trans f2) .non)
  | err x ω1 =>
    rw [e] at h
    dsimp only at h
    split at h
    · rename_i hc
      refine fun cls dd H' f2 g2 xr => ?_
      obtain ⟨rfl, xr⟩ := xr
      refine ⟨true, hx _ hc.1, fun _ a na => ?_, fun z => (by cases z)⟩
      have sm := same_upd (o := ExV (.ref (He.ga X.K x.1)) dd a) na
      have S3 : DSt X.K W.P M al σ (upd H' a (ExV (.ref (He.ga X.K x.1)) dd a)) δ ω1 := (S1.go f2 g2).same sm
      refine h _ _ S3 ((fr.trans f2).trans (.same sm)) ?_
      rcases xr with ⟨e1, rfl⟩ | ⟨f, d, b, v, e1, rfl, e3, r⟩
      · rw [e1]
        exact .exc0 upd_same
      · rw [e1]
        exact .exc1 upd_same (sm _ _ e3) (same_rep sm r)
    · exact h.elim
  | bad =>
    rw [e] at h
    exact h
end
end DL

namespace DL
open PySem PySem.Spec PyProof.Rows L2 LamX
/-! ### the source of draws -/
abbrev kGreat : Key := .inr "great"
abbrev kCells : Key := .inr "cells"
abbrev kLeft : Key := .inr "left"
abbrev kTurn : Key := .inr "turn"
def dkv (ga ca : Addr) (ω : Om) : List (Key × V) := [(kGreat, .ref ga), (kCells, .ref ca), (kLeft, .int ω.left), (kTurn, .int ω.turn)]
structure DrawG (sa ga ca : Addr) (ω : Om) (H : Hp) : Prop where
  d : H sa = some (.dK (dkv ga ca ω))
  g : H ga = some (.lst (ω.great.map V.int))
  c : H ca = some (.lst (ω.cells.map V.int))
  gc : ga ≠ ca
  gl : ω.great.length ≤ sizeLine
  cl : ω.cells.length ≤ sizeLine
/-- the places of the draws, and the tables T of code objects -/
def PD (T : List (Addr × Str)) : PP := fun sa Z G => ∃ ga ca, Z = (fun b => b = sa ∨ b = ga ∨ b = ca) ∧ G = fun ω H => DrawG sa ga ca ω H ∧ Tabs T H
section
variable {sa ga ca : Addr} {ω : Om} {H H' : Hp} {T : List (Addr × Str)}
theorem DrawG.sg (d : DrawG sa ga ca ω H) : sa ≠ ga := fun e => by
  have h1 := d.d
  rw [e, d.g] at h1
  cases h1
theorem DrawG.sc (d : DrawG sa ga ca ω H) : sa ≠ ca := fun e => by
  have h1 := d.d
  rw [e, d.c] at h1
  cases h1
theorem DrawG.ext (d : DrawG sa ga ca ω H) (h1 : H' sa = H sa) (h2 : H' ga = H ga) (h3 : H' ca = H ca) : DrawG sa ga ca ω H' :=
  ⟨by rw [h1]; exact d.d, by rw [h2]; exact d.g, by rw [h3]; exact d.c, d.gc, d.gl, d.cl⟩
theorem Tabs.of_keep (t : Tabs T H) (h : ∀ b o, H b = some o → (keepO (fun _ => True) b o ∨ ∃ ps, o = .tbl ps) → H' b = some o) : Tabs T H' := by
  intro p hp
  obtain ⟨ps, h1, h2, h3⟩ := t p hp
  refine ⟨ps, h _ _ h1 (.inr ⟨_, rfl⟩), h2, fun pos cv e => ?_⟩
  obtain ⟨c, e1, e2⟩ := h3 pos cv e
  exact ⟨c, e1, h _ _ e2 (.inl trivial)⟩
theorem PD.gm : GM (fun b => b = sa ∨ b = ga ∨ b = ca) (fun ω H => DrawG sa ga ca ω H ∧ Tabs T H) := fun ω H H' k ⟨d, t⟩ => by
  refine ⟨⟨k _ _ d.d (.inl (.inl rfl)), k _ _ d.g (.inl (.inr (.inl rfl))), k _ _ d.c (.inl (.inr (.inr rfl))), d.gc, d.gl, d.cl⟩, Tabs.of_keep t fun b o e ko => k _ _ e (.inr ko)⟩
theorem PD.tabs {Z : Addr → Prop} {G : Om → Hp → Prop} (h : PD T sa Z G) : (∀ ω H, G ω H → Tabs T H) ∧ ∀ ω H H1, G ω H → ExtN H H1 → Tabs T H1 → G ω H1 := by
  obtain ⟨ga, ca, rfl, rfl⟩ := h
  refine ⟨fun ω H h => h.2, fun ω H H1 h e t => ⟨⟨?_, ?_, ?_, h.1.gc, h.1.gl, h.1.cl⟩, t⟩⟩
  · exact e _ _ h.1.d fun ps z => by cases z
  · exact e _ _ h.1.g fun ps z => by cases z
  · exact e _ _ h.1.c fun ps z => by cases z
end
section
variable {X : Cx} {E : XK} {T : List (Addr × Str)} {pos : Pos} {e : Expr} {fa : EvE}
abbrev WD (E : XK) (T : List (Addr × Str)) : Wt := ⟨E, PD T⟩
variable {M : Fm} {al : Nat → Option Addr} {σ : L2.St} {H : Hp} {δ : Sls} {ω : Om}
theorem DSt.dg (S : DSt X.K (WD E T).P M al σ H δ ω) : ∃ ga ca, M.Z = (fun b => b = M.sa ∨ b = ga ∨ b = ca) ∧ M.G = (fun ω H => DrawG M.sa ga ca ω H ∧ Tabs T H) ∧ DrawG M.sa ga ca ω H ∧ Tabs T H := by
  obtain ⟨ga, ca, hz, hg⟩ := S.pp
  have g := S.g
  rw [hg] at g
  exact ⟨ga, ca, hz, hg, g.1, g.2⟩
/-- one of the state's objects is written -/
theorem fr_put {Z : Addr → Prop} {b : Addr} {o o' : HO} (hb : Z b) (h : H b = some o) (ho : ¬ keepO Z b o) (hn : NT o') : Fr Z H (upd H b o') := ⟨fun c x e k => by
    by_cases hc : c = b
    · subst hc
      rw [h] at e; cases e
      exact absurd k ho
    · rw [upd_ne hc]; exact e, fun c ⟨x, e, n⟩ => by
    by_cases hc : c = b
    · subst hc; exact ⟨_, upd_same, hn⟩
    · exact ⟨x, by rw [upd_ne hc]; exact e, n⟩⟩
theorem tabs_put {b : Addr} {o o' : HO} (h : H b = some o) (hn : NT o) (hk : ¬ keepO (fun _ => True) b o) (t : Tabs T H) : Tabs T (upd H b o') := Tabs.of_keep t fun c x e ko => by
  by_cases hc : c = b
  · subst hc
    rw [h] at e
    cases e
    rcases ko with ko | ⟨ps, rfl⟩
    · exact absurd ko hk
    · exact hn.elim
  · rw [upd_ne hc]; exact e
theorem DSt.putD (S : DSt X.K (WD E T).P M al σ H δ ω) {kvs : List (Key × V)} {ω' : Om} (hk : ∀ ga ca, H M.sa = some (.dK (dkv ga ca ω)) → kvs = dkv ga ca ω') (h1 : ω'.great = ω.great) (h2 : ω'.cells = ω.cells) :
    DSt X.K (WD E T).P M al σ (upd H M.sa (.dK kvs)) δ ω' ∧ Fr M.Z H (upd H M.sa (.dK kvs)) := by
  obtain ⟨ga, ca, hz, hg, d, t⟩ := S.dg
  have hs : M.Z M.sa := by rw [hz]; exact .inl rfl
  have f : Fr M.Z H (upd H M.sa (.dK kvs)) := fr_put hs d.d (fun z => z hs) trivial
  refine ⟨S.go f ?_, f⟩
  rw [hg]
  refine ⟨⟨?_, ?_, ?_, d.gc, by rw [h1]; exact d.gl, by rw [h2]; exact d.cl⟩, tabs_put d.d trivial (fun z => z trivial) t⟩
  · rw [upd_same, hk ga ca d.d]
  · rw [upd_ne (Ne.symm d.sg), h1]; exact d.g
  · rw [upd_ne (Ne.symm d.sc), h2]; exact d.c
theorem st_rep {K : PySem.W.Frag} {sa : Addr} {N : Addr → Prop} {v : V} (r : Rep K sa N H v .st) : v = .ref sa := by
  cases r
  rfl
/-- state['left'], state['turn'] -/
def eStI (f : Om → Int) (i : Nat) : EvE := fun δ ω => match δ[i]? with
  | some (.val .st) => .ok (.int (f ω)) ω
  | _ => .bad
theorem noSl_str {x : Str} {j : Nat} {p : Pos} : NoSl (.Constant (.str x) j p) := fun _ _ => rfl
theorem pd_stI {x key : Str} {i : Nat} {f : Om → Int} {p p2 : Pos} {j : Nat} (hu : X.A.units + 1 < cLine) (hf : ∀ ga ca ω, valV (dkv ga ca ω) (.inr key) = some (.int (f ω))) (hN : X.N[i]? = some x := by rfl) (hv : Vis X.env.scope x := by first | exact Or.inl rfl | exact Or.inr (Or.inl rfl) | exact Or.inr (Or.inr rfl)) (hd : (x == ("__debug__" : Str)) = false := by decide)
    (hcd : (x == ("__classdict__" : Str)) = false := by decide) : PEd X (WD E T) (.Subscript (.Name x p) (.Constant (.str key) j p2) pos) (eStI f i) := by
  refine ⟨_, pe_dget hu (pe_var hN hv hd hcd) pe_str noSl_str, fun M al σ H δ ω Q S h => ?_⟩
  unfold eStI at h
  split at h
  · rename_i e
    obtain ⟨v, e1, r⟩ := S.val e
    cases st_rep r
    obtain ⟨ga, ca, hz, hg, d, t⟩ := S.dg
    refine ⟨_, e1, M.sa, .int (f ω), rfl, ?_, h _ H S (Fr.refl H) (.int _)⟩
    have q := DGet.k (k := .inr key) d.d
    rw [hf] at q
    exact q
  · exact h.elim
/-- state['left'] = value, state['turn'] = value -/
def sStI (f : Om → Int → Om) (i : Nat) (fa : EvE) : EvS := fun δ ω => (fa δ ω).bind fun d ω1 => match d, δ[i]? with
  | .int k, some (.val .st) => .ok (.nx δ) (f ω1 k)
  | _, _ => .bad
theorem sd_stI {x key : Str} {i : Nat} {f : Om → Int → Om} {p p2 p3 : Pos} {j : Nat} (hu : X.A.units + 1 < cLine) (hf : ∀ ga ca ω k, putK (dkv ga ca ω) (.inr key) (.int k) = dkv ga ca (f ω k)) (h1 : ∀ ω k, (f ω k).great = ω.great) (h2 : ∀ ω k, (f ω k).cells = ω.cells) (ha : PEd X (WD E T) e fa)
    (hN : X.N[i]? = some x := by rfl) (hv : Vis X.env.scope x := by first | exact Or.inl rfl | exact Or.inr (Or.inl rfl) | exact Or.inr (Or.inr rfl)) (hd : (x == ("__debug__" : Str)) = false := by decide)
    (hcd : (x == ("__classdict__" : Str)) = false := by decide) (hs : swapsWith e (some (.Subscript (.Name x p) (.Constant (.str key) j p2) p3)) pos.line X.env = pure false := by rfl) : PSd X (WD E T) (.Assign [.Subscript (.Name x p) (.Constant (.str key) j p2) p3] e pos) (sStI f i fa) := by
  obtain ⟨t, p1, q1⟩ := ha.ex
  refine ⟨_, ps_dput hu (pe_var hN hv hd hcd) pe_str p1 hs, fun M al σ H δ ω D S h => ?_⟩
  refine q1 M al σ H δ ω _ S (post_mono (fun x H1 h1' => ?_) (posts_bind (rel := relE X.K M al) S.fr h))
  obtain ⟨d1, ω1, e1, S1, f1, r1, h1'⟩ := h1'
  split at h1'
  · rename_i k hk
    cases r1
    obtain ⟨v, e2, r⟩ := S1.val hk
    cases st_rep r
    obtain ⟨ga, ca, hz, hg, d, t⟩ := S1.dg
    obtain ⟨S2, f2⟩ := S1.putD (kvs := putK (dkv ga ca ω1) (.inr key) (.int k)) (ω' := f ω1 k) (fun ga' ca' e => by
      rw [d.d] at e
      injection e with e
      injection e with e
      rw [e]
      exact hf ga' ca' ω1 k) (h1 _ _) (h2 _ _)
    refine ⟨_, e2, M.sa, _, rfl, DPut.k (k := .inr key) d.d (by show 4 < sizeLine; decide), ?_⟩
    exact h1' al σ _ S2 (f1.trans f2).s AlExt.refl
  · exact h1'.elim
end
end DL

namespace DL
open PySem PySem.Spec PyProof.Rows L2 LamX
section
variable {X : Cx} {E : XK} {T : List (Addr × Str)} {pos : Pos} {e : Expr} {fa : EvE}
variable {M : Fm} {al : Nat → Option Addr} {σ : L2.St} {H : Hp} {δ : Sls} {ω : Om}
theorem ints_dp {K : PySem.W.Frag} : ∀ ns : List Int, DpAll K H (ns.map V.int) (ns.map PyData.int)
  | [] => .nil
  | n :: r => .cons (.int n) (ints_dp r)
theorem ints_lay : ∀ ns : List Int, PyData.canLayAll0 (ns.map PyData.int) = true ∧ PyData.depthAll (ns.map PyData.int) = 0
  | [] => by simp [PyData.canLayAll0, PyData.depthAll]
  | n :: r => by
    have h := ints_lay r
    simp [PyData.canLayAll0, PyData.depthAll, PyData.canLay0, PyData.depth, h.1, h.2]
theorem ints_shaped (ns : List Int) : SeqAt.shaped (.list (ns.map PyData.int)) = true := by
  unfold SeqAt.shaped
  have h := ints_lay ns
  simp [PyData.canLay0, PyData.depth, h.1, h.2]
theorem ints_eqv_nil (ns : List Int) : PyData.eqv (.list (ns.map PyData.int)) (.list []) = ns.isEmpty := by
  cases ns <;> simp [PyData.eqv, PyData.eqvAll]
/-- state['great'] != [] -/
def tGreat (i : Nat) : EvT := fun δ ω => match δ[i]? with
  | some (.val .st) => .ok (!ω.great.isEmpty) ω
  | _ => .bad
theorem kne {a b : Key} {v : V} (h : a ≠ b) : ¬ ((a, v) : Key × V).1 = b := h
theorem n_gc : kGreat ≠ kCells := by decide
theorem n_gl : kGreat ≠ kLeft := by decide
theorem n_gt : kGreat ≠ kTurn := by decide
theorem n_cl : kCells ≠ kLeft := by decide
theorem n_ct : kCells ≠ kTurn := by decide
theorem n_lt : kLeft ≠ kTurn := by decide
theorem dkv_great (ga ca : Addr) (ω : Om) : valV (dkv ga ca ω) (.inr "great") = some (.ref ga) := rfl
theorem dkv_cells (ga ca : Addr) (ω : Om) : valV (dkv ga ca ω) (.inr "cells") = some (.ref ca) := by
  unfold dkv
  rw [valV_neg (kne n_gc), valV_pos rfl]
theorem dkv_left (ga ca : Addr) (ω : Om) : valV (dkv ga ca ω) (.inr "left") = some (.int ω.left) := by
  unfold dkv
  rw [valV_neg (kne n_gl), valV_neg (kne n_cl), valV_pos rfl]
theorem dkv_turn (ga ca : Addr) (ω : Om) : valV (dkv ga ca ω) (.inr "turn") = some (.int ω.turn) := by
  unfold dkv
  rw [valV_neg (kne n_gt), valV_neg (kne n_ct), valV_neg (kne n_lt), valV_pos rfl]
theorem dkv_putL (ga ca : Addr) (ω : Om) (k : Int) : putK (dkv ga ca ω) (.inr "left") (.int k) = dkv ga ca { ω with left := k } := by
  unfold dkv putK
  rw [if_pos (by simp)]
  simp only [List.map_cons, List.map_nil]
  rw [if_neg n_gl, if_neg n_cl, if_pos trivial, if_neg (Ne.symm n_lt)]
theorem dkv_putT (ga ca : Addr) (ω : Om) (k : Int) : putK (dkv ga ca ω) (.inr "turn") (.int k) = dkv ga ca { ω with turn := k } := by
  unfold dkv putK
  rw [if_pos (by simp)]
  simp only [List.map_cons, List.map_nil]
  rw [if_neg n_gt, if_neg n_ct, if_neg n_lt, if_pos trivial]
theorem td_great {x : Str} {i : Nat} {p p2 p3 p4 : Pos} {j : Nat} (hu : X.A.units + 64 < cLine) (hN : X.N[i]? = some x := by rfl) (hv : Vis X.env.scope x := by first | exact Or.inl rfl | exact Or.inr (Or.inl rfl) | exact Or.inr (Or.inr rfl)) (hd : (x == ("__debug__" : Str)) = false := by decide)
    (hcd : (x == ("__classdict__" : Str)) = false := by decide) (hm : behindInMarks .NotEq (.List [] p4) = false := by first | rfl | exact nobehind _ (by decide) (by decide)) : PTd X (WD E T) (.Compare (.Subscript (.Name x p) (.Constant (.str "great") j p2) p3) [.NotEq] [.List [] p4] pos) (tGreat i) := by
  refine ⟨_, pt_cmpR (op_neD hu) (pe_dget (by omega) (pe_var hN hv hd hcd) pe_str noSl_str) (pe_lst pa_nil) hm, fun M al σ H δ ω Q S h => ?_⟩
  unfold tGreat at h
  split at h
  · rename_i e
    obtain ⟨v, e1, r⟩ := S.val e
    cases st_rep r
    obtain ⟨ga, ca, hz, hg, d, t⟩ := S.dg
    have q := DGet.k (k := .inr "great") d.d
    rw [dkv_great] at q
    refine ⟨_, e1, M.sa, .ref ga, rfl, q, Nat.zero_le _, fun p hp => ?_⟩
    have sm := same_upd (o := .lst []) hp
    refine ⟨_, _, .lst (SqL.of (sm _ _ d.g)) (ints_dp _), .lst (SqL.of upd_same) .nil, ints_shaped _, ints_shaped [], _, rfl, ?_⟩
    rw [ints_eqv_nil]
    exact h _ _ (S.same sm) (.same sm) rfl
  · exact h.elim
/-- state['great'].pop(0) -/
def ePop (i : Nat) : EvE := fun δ ω => match δ[i]?, ω.great with
  | some (.val .st), g :: gs => .ok (.int g) { ω with great := gs }
  | _, _ => .bad
theorem pd_pop {x : Str} {i : Nat} {p p2 p3 apos cpos pz : Pos} {j k : Nat} (hu : X.A.units + 64 < cLine) (hN : X.N[i]? = some x := by rfl) (hv : Vis X.env.scope x := by first | exact Or.inl rfl | exact Or.inr (Or.inl rfl) | exact Or.inr (Or.inr rfl)) (hd : (x == ("__debug__" : Str)) = false := by decide)
    (hcd : (x == ("__classdict__" : Str)) = false := by decide)
    (hbase : attributeBase (.Subscript (.Name x p) (.Constant (.str "great") j p2) p3) "pop" X.env (eval (.Subscript (.Name x p) (.Constant (.str "great") j p2) p3) X.env) = eval (.Subscript (.Name x p) (.Constant (.str "great") j p2) p3) X.env := by rfl)
    (hfew : ((backTo cpos (starEach (.Constant (.int 0) k pz :: []) X.env)).all (fun x => !x.1) && (backToKw cpos (keywordEach [] X.env)).all (fun x => x.1.isSome)
      && decide (((.Constant (.int 0) k pz : Expr) :: []).length + ([] : List Keyword).length + (if ([] : List Keyword).isEmpty then 0 else 1) < 30)) = true := by rfl)
    (hline : (apos.endLine == cpos.line) = true := by rfl) (hs : starEach (.Constant (.int 0) k pz :: []) X.env = (false, eval (.Constant (.int 0) k pz) X.env) :: starEach [] X.env := by rfl) (hplain : (backTo cpos (starEach [] X.env)).any (·.1) = false := by rfl) :
    PEd X (WD E T) (.Call (.Attribute (.Subscript (.Name x p) (.Constant (.str "great") j p2) p3) "pop" apos) [.Constant (.int 0) k pz] [] cpos) (ePop i) := by
  refine ⟨_, pe_bm PySem.F.plainAttrs_list PySem.F.slot_list_pop PySem.F.type_list_pop mt_popAt (pe_dget (by omega) (pe_var hN hv hd hcd) pe_str noSl_str) (pa_cons pe_int pa_nil hs) hbase hfew hline hs hplain, fun M al σ H δ ω Q S h => ?_⟩
  unfold ePop at h
  split at h
  · rename_i g gs e eg
    obtain ⟨v, e1, r⟩ := S.val e
    cases st_rep r
    obtain ⟨ga, ca, hz, hg, d, t⟩ := S.dg
    have q := DGet.k (k := .inr "great") d.d
    rw [dkv_great] at q
    have dg := d.g
    rw [eg] at dg
    refine ⟨_, e1, M.sa, .ref ga, rfl, q, .inl ⟨rfl, _, SqL.of dg⟩, ga, _, 0, 0, .int g, rfl, rfl, dg, by decide, by decide, ?_, rfl, ?_⟩
    · unfold seqIndex?
      simp
    have hga : M.Z ga := by rw [hz]; exact .inr (.inl rfl)
    have f : Fr M.Z H (upd H ga (.lst (((g :: gs).map V.int).eraseIdx 0))) := fr_put hga dg (fun z => z hga) trivial
    refine h _ _ (S.go f ?_) f (.int _)
    rw [hg]
    refine ⟨⟨?_, ?_, ?_, d.gc, ?_, d.cl⟩, tabs_put dg trivial (fun z => z trivial) t⟩
    · rw [upd_ne d.sg]; exact d.d
    · rw [upd_same]; rfl
    · rw [upd_ne (Ne.symm d.gc)]; exact d.c
    · have := d.gl
      rw [eg, List.length_cons] at this
      show gs.length ≤ _
      omega
  · exact h.elim
/-! ### for cell in state['cells'] -/
def loopC (cs : List Int) (g : EvG) (body : EvS) : List Int → EvS
  | [] => sNext
  | d :: ds => fun δ ω => match g (.int d) δ ω with
    | none => .bad
    | some δ1 => (body δ1 ω).bind fun fl ω2 => match fl with
      | .nx δ2 => if ω2.cells = cs then loopC cs g body ds δ2 ω2 else .bad
      | _ => .bad
def sForC (i : Nat) (g : EvG) (body : EvS) : EvS := fun δ ω => match δ[i]? with
  | some (.val .st) => loopC ω.cells g body ω.cells δ ω
  | _ => .bad
theorem sd_forC {x : Str} {tg : Expr} {i : Nat} {p p2 p3 : Pos} {j : Nat} {body : List Stmt} {g : EvG} {fb : EvS} {vs : List Nat} (hp : PassesOwn (model X.prog X.w) X.A X.env X.xe) (hc : X.calm = true) (hu : X.A.units + 64 < cLine) (hg : PGd X (PD T) tg vs g) (hb : PSsd X (WD E T) body fb)
    (hN : X.N[i]? = some x := by rfl) (hv : Vis X.env.scope x := by first | exact Or.inl rfl | exact Or.inr (Or.inl rfl) | exact Or.inr (Or.inr rfl)) (hd : (x == ("__debug__" : Str)) = false := by decide)
    (hcd : (x == ("__classdict__" : Str)) = false := by decide) (hs : ∀ x', foldedSetIterable (.Subscript (.Name x p) (.Constant (.str "cells") j p2) p3) X.env x' = pure x' := by intro _; rfl) :
    PSd X (WD E T) (.For tg (.Subscript (.Name x p) (.Constant (.str "cells") j p2) p3) body [] pos) (sForC i g fb) := by
  obtain ⟨t2, p2, q2⟩ := hg.ex
  obtain ⟨t3, p3, q3⟩ := hb.ex
  refine ⟨_, ps_for hp hc (pi_list (pe_dget (by omega) (pe_var hN hv hd hcd) pe_str noSl_str)) p2 p3 hs, fun M al σ H δ ω D S h => ?_⟩
  unfold sForC at h
  split at h
  · rename_i e
    obtain ⟨v, e1, r⟩ := S.val e
    cases st_rep r
    obtain ⟨ga, ca, hz, hg', d, t⟩ := S.dg
    have q := DGet.k (k := .inr "cells") d.d
    rw [dkv_cells] at q
    refine ⟨_, e1, M.sa, .ref ca, rfl, q, ca, rfl, ⟨_, SqL.of d.c⟩, ?_⟩
    refine ⟨fun i m σ' H' => m = ω.cells.length - i ∧ i ≤ ω.cells.length ∧ ∃ al' δ' ω', DSt X.K (PD T) M al' σ' H' δ' ω' ∧ FrS M al H H' ∧ AlExt H al al' ∧ ω'.cells = ω.cells ∧ PostS X.K M al' H' (loopC ω.cells g fb (ω.cells.drop i) δ' ω') D (WD E T), ⟨ω.cells.length, by simp, Nat.zero_le _, al, δ, ω, S, Fr.refl H, AlExt.refl, rfl, h⟩, ?_⟩
    rintro i m σ1 H1 ⟨rfl, hi, al1, δ1, ω1, S1, f1, x1, ec, h1⟩
    have d1 : DrawG M.sa ga ca ω1 H1 := by
      have z := S1.g
      rw [hg'] at z
      exact z.1
    have hcv : H1 ca = some (.lst (ω.cells.map V.int)) := by rw [← ec]; exact d1.c
    by_cases hlt : i < ω.cells.length
    · rw [List.drop_eq_getElem_cons hlt] at h1
      refine .inr ⟨⟨_, .int (ω.cells[i]), SqL.of hcv, by simp [hlt]⟩, fun σ' H' => ∃ al' δ' ω', DSt X.K (PD T) M al' σ' H' δ' ω' ∧ FrS M al H H' ∧ AlExt H al al' ∧ ω'.cells = ω.cells ∧ PostS X.K M al' H' (loopC ω.cells g fb (ω.cells.drop (i + 1)) δ' ω') D (WD E T), fun σ'' H'' z => ⟨ω.cells.length - (i + 1), by omega, rfl, hlt, z⟩, fun x H2 y => ?_⟩
      obtain ⟨eH, y⟩ := y
      subst H2
      have ex : (ω.cells.map V.int)[i]? = some x := y _ (SqL.of hcv)
      have ex2 : V.int (ω.cells[i]) = x := by
        rw [List.getElem?_map, List.getElem?_eq_getElem hlt] at ex
        exact Option.some.inj ex
      subst ex2
      unfold loopC at h1
      cases eg : g (.int ω.cells[i]) δ1 ω1 with
      | none => rw [eg] at h1; exact (show False from h1).elim
      | some δ2 =>
        rw [eg] at h1
        dsimp only at h1
        refine q2 M al1 σ1 H1 δ1 ω1 _ _ δ2 _ S1 (.int _) eg fun σ2 S3 _ _ => ?_
        have x2 : AlExt H1 al1 (alW al1 vs) := fun j a q => .inl ⟨j, (alW_sub q).1⟩
        have x12 : AlExt H al (alW al1 vs) := x1.trans f1 x2
        refine q3 M (alW al1 vs) σ2 H1 δ2 ω1 _ S3 ?_
        cases er : fb δ2 ω1 with
        | ok fl ω3 =>
          rw [er] at h1
          cases fl with
          | nx δ3 =>
            dsimp only [Rs.bind] at h1
            split at h1
            · rename_i hc3
              exact fun al3 σ3 H3 S4 f3 x3 => ⟨al3, δ3, ω3, S4, f1.trans x12 f3, x12.trans f1 x3, hc3, posts_from (FrS.trans (al1 := alW al1 vs) (Fr.refl H1) x2 f3) (x2.trans (Z := fun _ => False) (Fr.refl H1) x3) h1⟩
            · exact (show False from h1).elim
          | ct δ3 => exact (show False from h1).elim
          | bk δ3 => exact (show False from h1).elim
          | rt d => exact (show False from h1).elim
        | err z ω3 => rw [er] at h1; exact h1
        | bad => rw [er] at h1; exact h1
    · have e : i = ω.cells.length := by omega
      subst e
      rw [List.drop_length] at h1
      exact .inl ⟨⟨_, SqL.of hcv, by simp⟩, h1 al1 σ1 _ S1 (Fr.refl _) AlExt.refl⟩
  · exact h.elim
end
end DL

namespace DL
open PySem PySem.Spec PyProof.Rows L2 LamX
section
variable {X : Cx} {W : Wt} {P : PP} {K : PySem.W.Frag} {M : Fm} {al : Nat → Option Addr} {σ : L2.St} {H H' : Hp} {δ : Sls} {ω ω' : Om}
variable {a b e c : Expr} {es : List Expr} {fa fb fc : EvE} {ft fu : EvT} {fs : EvA} {gs gt : EvS} {pos : Pos} {st : Stmt} {rest : List Stmt}
/-- a list that came up by the way becomes the def's own -/
theorem DSt.takeOwn (S : DSt K P M al σ H δ ω) {i : Nat} {L : Addr} {xs : List V} {ds : List D} (hL : H L = none) (hi : i < δ.length) (f : Fr M.Z H H') (g : M.G ω' H') (hL' : H' L = some (.lst xs)) (hl : xs.length ≤ sizeLine) (r : Reps K M.sa (fun b => NA M.N al b ∨ b = L) H' xs ds) :
    DSt K P M (fun j => if j = i then some L else al j) (σ.set i (some (.ref L))) H' (δ.set i (.own ds)) ω' := by
  have hle : ∀ b, NA M.N (fun j => if j = i then some L else al j) b → Tr H b → NA M.N al b := fun b hb ⟨o, ho, _⟩ => by
    rcases hb with hb | ⟨k, hb⟩
    · exact .inl hb
    · by_cases e : k = i
      · simp only [e, if_pos] at hb
        cases hb
        rw [hL] at ho; cases ho
      · simp only [if_neg e] at hb; exact .inr ⟨k, hb⟩
  have hle2 : ∀ b, NA M.N (fun j => if j = i then some L else al j) b → Tr H' b → (NA M.N al b ∨ b = L) := fun b hb _ => by
    rcases hb with hb | ⟨k, hb⟩
    · exact .inl (.inl hb)
    · by_cases e : k = i
      · simp only [e, if_pos] at hb
        cases hb
        exact .inr rfl
      · simp only [if_neg e] at hb; exact .inl (.inr ⟨k, hb⟩)
  refine ⟨S.pp, S.zn, S.gm, g, fun b hb => f.there b (S.nt b hb), S.fr.trans f, by rw [List.length_set, List.length_set]; exact S.len, fun j hj => ?_, fun j k a h1 h2 => ?_, fun j a h => ?_⟩
  · rw [List.length_set] at hj
    by_cases e : j = i
    · subst e
      have hs : j < σ.length := by rw [S.len]; exact hj
      rw [List.getElem?_set_self hs, List.getElem?_set_self hj, if_pos rfl]
      exact .own hL' hl (r.less hle2)
    · rw [List.getElem?_set_ne (Ne.symm e), List.getElem?_set_ne (Ne.symm e), if_neg e]
      have q := S.sl j hj
      have nz : ∀ a, al j = some a → ¬ M.Z a := fun a ha z => (S.fresh j a ha).2.1 (S.zn a z)
      generalize (σ[j]?).getD none = o at q ⊢
      generalize (δ[j]?).getD .emp = x at q ⊢
      generalize al j = w at q nz ⊢
      cases q with
      | emp => exact .emp
      | val r => exact .val ((r.less hle).mono f fun b z => .inl (S.zn b z))
      | own h l r => exact .own (f.keep _ _ h (nz _ rfl)) l ((r.less hle).mono f fun b z => .inl (S.zn b z))
  · have noL : ∀ k, al k ≠ some L := fun k z => by
      obtain ⟨ys, e⟩ := S.own_there z
      rw [hL] at e; cases e
    by_cases e1 : j = i
    · by_cases e2 : k = i
      · rw [e1, e2]
      · simp only [e1, if_pos] at h1
        simp only [if_neg e2] at h2
        rw [← h1] at h2
        exact absurd h2 (noL k)
    · by_cases e2 : k = i
      · simp only [if_neg e1] at h1
        simp only [e2, if_pos] at h2
        rw [← h2] at h1
        exact absurd h1 (noL j)
      · simp only [if_neg e1] at h1
        simp only [if_neg e2] at h2
        exact S.inj j k a h1 h2
  · rw [List.length_set]
    by_cases e1 : j = i
    · simp only [e1, if_pos] at h
      cases h
      exact ⟨fun z => Tr.not hL (S.fr.there L z), fun z => Tr.not hL (S.nt L z), by rw [e1]; exact hi⟩
    · simp only [if_neg e1] at h
      exact S.fresh j a h
/-- y = [.. for ..], to be changed -/
def sNewLc (i : Nat) (fa : EvE) : EvS := fun δ ω => if i < δ.length then (fa δ ω).bind fun d ω1 => match d with
  | .lst ds => .ok (.nx (δ.set i (.own ds))) ω1
  | _ => .bad else .bad
theorem sd_newLc {i : Nat} {y : Str} {py spos : Pos} {elt tg iter : Expr} {ifs : List Expr} {scope : Scope} {own : List (Str × Nat)} {fi : EvI} {g : EvG} {fe : EvE} (hc : X.calm = true) (hN : X.N.Nodup) (hy : X.N[i]? = some y) (hyl : X.env.scope.names.lookup y = some .local)
    (hsw : swapsWith (.ListComp elt [⟨tg, iter, ifs, 0⟩] scope pos) (some (.Name y py)) spos.line X.env = pure true) (hi : PId X W tg iter fi) (ok : BlkOk X.N X.env.scope scope own)
    (hg : ∀ p, PGd (Blk X scope p) W.P tg (own.map (·.2)) g) (ht : ∀ p, PTsd (Blk X scope p) (NoX W.P) ifs ft) (he : ∀ p, PEd (Blk X scope p) (NoX W.P) elt fe)
    (hs : ∀ x, foldedSetIterable iter X.env x = pure x := by intro _; rfl) : PSd X W (.Assign [.Name y py] (.ListComp elt [⟨tg, iter, ifs, 0⟩] scope pos) spos) (sNewLc i (eComp fi g ft fe (own.map (·.2)))) := by
  obtain ⟨t1, p1, q1⟩ := hi.ex
  obtain ⟨t2, q2, p2⟩ := fam_g (K := X.K) (Xi := Blk X scope) (fun _ => rfl) hg
  obtain ⟨t3, q3, p3⟩ := fam_ts (K := X.K) (Xi := Blk X scope) (fun _ => rfl) ht
  obtain ⟨t4, q4, p4⟩ := fam_e (K := X.K) (Xi := Blk X scope) (fun _ => rfl) he
  refine ⟨_, ps_setLc hc hN hy hyl hsw p1 ok (fun s H C cl fp => p2 (s, H, C, cl, fp)) (fun s H C cl fp => p3 (s, H, C, cl, fp)) (fun s H C cl fp => p4 (s, H, C, cl, fp)) hs, fun M al σ H δ ω DD S h => ?_⟩
  unfold sNewLc at h
  split at h
  · rename_i hlt
    have h2 : PostS X.K M al H ((fi δ ω).bind fun ds ω1 => ((noErr (compF g ft fe (wipeD δ (own.map (·.2))) ds ω1)).bind fun ys ω2 => .ok (.nx (δ.set i (.own ys))) ω2)) DD W := by
      unfold eComp at h
      cases ef : fi δ ω with
      | ok ds ω1 =>
        rw [ef] at h
        dsimp only [Rs.bind] at h ⊢
        cases ec : noErr (compF g ft fe (wipeD δ (own.map (·.2))) ds ω1) with
        | ok ys ω2 => rw [ec] at h; exact h
        | err z ω2 => rw [ec] at h; exact h
        | bad => rw [ec] at h; exact h
      | err z ω1 => rw [ef] at h; exact h
      | bad => rw [ef] at h; exact h
    refine q1 M al σ H δ ω _ S (post_mono (fun J H1 h1 => ?_) (posts_bind (rel := fun H1 J ds => ItD X.K M.sa (NA M.N al) J H1 ds) S.fr h2))
    obtain ⟨ds, ω1, e1, S1, f1, r1, h1⟩ := h1
    intro L hL
    let rel : Hp → V → D → Prop := fun H' v d => v = .ref L ∧ ∃ xs ds, d = .lst ds ∧ H' L = some (.lst xs) ∧ xs.length ≤ sizeLine ∧ Reps X.K M.sa (fun b => NA M.N al b ∨ b = L) H' xs ds
    refine comp_okG (rel := rel) (Q := fun x H1 => gName i x σ H1 DD.nx) q2 q3 q4 S1 (r1.toC S1.zna) L (fun H' xs ds q1 q2 q3 => ⟨rfl, xs, ds, rfl, q1, q2, q3⟩) ?_ hL
    cases ec : noErr (compF g ft fe (wipeD δ (own.map (·.2))) ds ω1) with
    | err z ω2 => rw [ec] at h1; exact fun cls dd H' f' g' x' => h1 cls dd H' (S1.fr.trans f') g' (x'.less fun b hb _ => .inl hb)
    | bad => rw [ec] at h1; exact h1
    | ok ys ω2 =>
      rw [ec] at h1
      rintro v H' S2 f2 ⟨rfl, xs, es, ed, k1, k2, k3⟩
      cases ed
      refine h1 _ _ _ (S1.takeOwn hL hlt f2 S2.g k1 k2 k3) (f1.trans f2).s fun j a q => ?_
      by_cases ej : j = i
      · simp only [ej, if_pos] at q
        cases q
        exact .inr fun z => Tr.not hL (f1.there L z)
      · simp only [if_neg ej] at q; exact .inl ⟨j, q⟩
  · exact h.elim
/-- a comprehension whose list is known to be new -/
theorem lc_new {elt tg iter : Expr} {ifs : List Expr} {scope : Scope} {own : List (Str × Nat)} {fi : EvI} {g : EvG} {fe : EvE} (hc : X.calm = true) (hN : X.N.Nodup) (hi : PId X W tg iter fi) (ok : BlkOk X.N X.env.scope scope own)
    (hg : ∀ p, PGd (Blk X scope p) W.P tg (own.map (·.2)) g) (ht : ∀ p, PTsd (Blk X scope p) (NoX W.P) ifs ft) (he : ∀ p, PEd (Blk X scope p) (NoX W.P) elt fe)
    (hs : ∀ x, foldedSetIterable iter X.env x = pure x := by intro _; rfl) : ∃ t, PE X (.ListComp elt [⟨tg, iter, ifs, 0⟩] scope pos) t ∧ ∀ M al σ H δ ω Q, DSt X.K W.P M al σ H δ ω → PostR X.K M al σ H δ (fun H' v d => ∃ L xs ds, v = .ref L ∧ ¬ Tr H L ∧ d = .lst ds ∧ H' L = some (.lst xs) ∧ xs.length ≤ sizeLine ∧ Reps X.K M.sa (NA M.N al) H' xs ds) (eComp fi g ft fe (own.map (·.2)) δ ω) Q W → t σ H Q := by
  obtain ⟨t1, p1, q1⟩ := hi.ex
  obtain ⟨t2, q2, p2⟩ := fam_g (K := X.K) (Xi := Blk X scope) (fun _ => rfl) hg
  obtain ⟨t3, q3, p3⟩ := fam_ts (K := X.K) (Xi := Blk X scope) (fun _ => rfl) ht
  obtain ⟨t4, q4, p4⟩ := fam_e (K := X.K) (Xi := Blk X scope) (fun _ => rfl) he
  refine ⟨_, pe_lc hc hN p1 ok (fun s H C cl fp => p2 (s, H, C, cl, fp)) (fun s H C cl fp => p3 (s, H, C, cl, fp)) (fun s H C cl fp => p4 (s, H, C, cl, fp)) hs, fun M al σ H δ ω Q S h => ?_⟩
  refine q1 M al σ H δ ω _ S (post_mono (fun J H1 h1 => ?_) (post_bind (rel := fun H1 J ds => ItD X.K M.sa (NA M.N al) J H1 ds) h))
  obtain ⟨ds, ω1, e1, S1, f1, r1, h1⟩ := h1
  exact fun L hL => comp_okG q2 q3 q4 S1 (r1.toC S1.zna) L (fun H' xs ds k1 k2 k3 => ⟨L, xs, ds, rfl, fun z => Tr.not hL (f1.there L z), rfl, k1, k2, k3.less fun b hb _ => .inl hb⟩) (post_from f1 h1) hL
end
end DL

namespace DL
open PySem PySem.Spec PyProof.Rows L2 LamX
section
variable {X : Cx} {W : Wt} {K : PySem.W.Frag}
instance decDiv (i j : Int) : Decidable (CDiv i j) := by unfold CDiv; infer_instance
instance decPow (i j : Int) : Decidable (CPow i j) := by unfold CPow; infer_instance
instance decMul (i j : Int) : Decidable (CMul i j) := by unfold CMul; infer_instance
abbrev gSub : D → D → Option D := gII fun i j => .int (i - j)
theorem o_sub : Op2 K (rI0 fun i j => .int (i - j)) gSub := op2_I0 fun _ _ _ _ _ => .int _
abbrev gMul : D → D → Option D := gIC CMul fun i j => .int (i * j)
theorem o_mul : Op2 K (rI CMul fun i j => .int (i * j)) gMul := op2_I fun _ _ _ _ _ => .int _
abbrev gDiv : D → D → Option D := gIC CDiv fun i j => .int (i / j)
theorem o_div : Op2 K (rI CDiv fun i j => .int (i / j)) gDiv := op2_I fun _ _ _ _ _ => .int _
abbrev gMod : D → D → Option D := gIC (fun _ j => 0 < j) fun i j => .int (i % j)
theorem o_mod : Op2 K (rI (fun _ j => 0 < j) fun i j => .int (i % j)) gMod := op2_I fun _ _ _ _ _ => .int _
abbrev gPow : D → D → Option D := gIC CPow fun i j => .int (i ^ j.toNat)
theorem o_pow : Op2 K (rI CPow fun i j => .int (i ^ j.toNat)) gPow := op2_I fun _ _ _ _ _ => .int _
abbrev gLt : D → D → Option D := gII fun i j => .bl (decide (i < j))
theorem o_lt : Op2 K (rI0 fun i j => .bl (decide (i < j))) gLt := op2_I0 fun _ _ _ _ _ => .bl _
abbrev gLeI : D → D → Option D := gII fun i j => .bl (decide (i ≤ j))
theorem o_le : Op2 K (rI0 fun i j => .bl (decide (i ≤ j))) gLeI := op2_I0 fun _ _ _ _ _ => .bl _
abbrev gGt : D → D → Option D := gII fun i j => .bl (decide (j < i))
theorem o_gt : Op2 K (rI0 fun i j => .bl (decide (j < i))) gGt := op2_I0 fun _ _ _ _ _ => .bl _
abbrev gGe : D → D → Option D := gII fun i j => .bl (decide (j ≤ i))
theorem o_ge : Op2 K (rI0 fun i j => .bl (decide (j ≤ i))) gGe := op2_I0 fun _ _ _ _ _ => .bl _
def gNeg : D → Option D
  | .int i => some (.int (-i))
  | _ => none
theorem o_neg : Op1 K (rU fun i => .int (-i)) gNeg := ⟨fun sa N H x a d Q r e nt k => by
  unfold gNeg at e
  split at e
  · cases r
    cases e
    exact ⟨_, rfl, k _ _ (Same.refl _) (.int _)⟩
  · cases e⟩
/-! ### built-ins of one value -/
theorem OpN.orN {r r' : List V → Hp → VK → Prop} {g g' : List D → Option D} (h : OpN K r g) (h' : OpN K r' g') : OpN K (fun xs H Q => r xs H Q ∨ r' xs H Q) (fun as => (g as).or (g' as)) := ⟨fun sa N H xs as d Q ra e nt k => by
  cases q : g as with
  | some z =>
    rw [q] at e
    exact .inl (h.ok sa N H xs as d Q ra (by rw [q]; exact e) nt k)
  | none =>
    rw [q] at e
    exact .inr (h'.ok sa N H xs as d Q ra e nt k)⟩
def gAbs : List D → Option D
  | [.int i] => some (.int (if i < 0 then -i else i))
  | _ => none
theorem o_abs : OpN K (fun xs H Q => ∃ i, xs = [.int i] ∧ Q (.int (if i < 0 then -i else i)) H) gAbs := ⟨fun sa N H xs as d Q r e nt k => by
  unfold gAbs at e
  split at e
  · obtain ⟨v, rfl, r1⟩ := r.one
    cases r1
    cases e
    exact ⟨_, rfl, k _ _ (Same.refl _) (.int _)⟩
  · cases e⟩
def gIntI : List D → Option D
  | [.int i] => some (.int i)
  | [.bl b] => some (.int (if b then 1 else 0))
  | _ => none
theorem o_intI : OpN K (fun xs H Q => (∃ i, xs = [.int i] ∧ Q (.int i) H) ∨ ∃ k, xs = [.bl k] ∧ Q (.int (if k then 1 else 0)) H) gIntI := ⟨fun sa N H xs as d Q r e nt k => by
  unfold gIntI at e
  split at e
  · obtain ⟨v, rfl, r1⟩ := r.one
    cases r1
    cases e
    exact .inl ⟨_, rfl, k _ _ (Same.refl _) (.int _)⟩
  · obtain ⟨v, rfl, r1⟩ := r.one
    cases r1
    cases e
    exact .inr ⟨_, rfl, k _ _ (Same.refl _) (.int _)⟩
  · cases e⟩
def gIntS : List D → Option D
  | [.str a] => if a.length ≤ 640 then (PySem.intText? a).map D.int else none
  | _ => none
theorem o_intS : OpN K (fun xs H Q => ∃ a n, xs = [.str a] ∧ PySem.intText? a = some n ∧ a.length ≤ 640 ∧ Q (.int n) H) gIntS := ⟨fun sa N H xs as d Q r e nt k => by
  unfold gIntS at e
  split at e
  · rename_i a
    obtain ⟨v, rfl, r1⟩ := r.one
    cases r1
    split at e
    · rename_i hl
      cases q : PySem.intText? a with
      | none => rw [q] at e; cases e
      | some n =>
        rw [q] at e
        cases e
        exact ⟨_, n, rfl, q, hl, k _ _ (Same.refl _) (.int _)⟩
    · cases e
  · cases e⟩
abbrev gInt : List D → Option D := fun as => (gIntI as).or (gIntS as)
theorem o_int : OpN K (fun xs H Q => (fun xs H Q => (∃ i, xs = [V.int i] ∧ Q (.int i) H) ∨ ∃ k, xs = [V.bl k] ∧ Q (V.int (if k then 1 else 0)) H) xs H Q ∨ (fun xs H Q => ∃ a n, xs = [V.str a] ∧ PySem.intText? a = some n ∧ a.length ≤ 640 ∧ Q (V.int n) H) xs H Q) gInt := o_intI.orN o_intS
theorem c_int : CallR X (.type "int") (fun xs H Q => (fun xs H Q => (∃ i, xs = [V.int i] ∧ Q (.int i) H) ∨ ∃ k, xs = [V.bl k] ∧ Q (V.int (if k then 1 else 0)) H) xs H Q ∨ (fun xs H Q => ∃ a n, xs = [V.str a] ∧ PySem.intText? a = some n ∧ a.length ≤ 640 ∧ Q (V.int n) H) xs H Q) := call_int1.or call_int_str
def gStrI : List D → Option D
  | [.int i] => if i.natAbs.log2 < 1920 then some (.str (toString i)) else none
  | _ => none
theorem o_strI : OpN K (fun xs H Q => ∃ i, xs = [.int i] ∧ i.natAbs.log2 < 1920 ∧ Q (.str (toString i)) H) gStrI := ⟨fun sa N H xs as d Q r e nt k => by
  unfold gStrI at e
  split at e
  · obtain ⟨v, rfl, r1⟩ := r.one
    cases r1
    split at e
    · rename_i hl
      cases e
      exact ⟨_, rfl, hl, k _ _ (Same.refl _) (.str _)⟩
    · cases e
  · cases e⟩
def gOrd : List D → Option D
  | [.str x] => if x.length = 1 then some (.int (x.cps.getD 0 0 : Nat)) else none
  | _ => none
theorem o_ord : OpN K (fun xs H Q => ∃ x, xs = [.str x] ∧ x.length = 1 ∧ Q (.int (x.cps.getD 0 0 : Nat)) H) gOrd := ⟨fun sa N H xs as d Q r e nt k => by
  unfold gOrd at e
  split at e
  · obtain ⟨v, rfl, r1⟩ := r.one
    cases r1
    split at e
    · rename_i hl
      cases e
      exact ⟨_, rfl, hl, k _ _ (Same.refl _) (.int _)⟩
    · cases e
  · cases e⟩
def gMin2 : List D → Option D
  | [.int i, .int j] => some (.int (if j < i then j else i))
  | _ => none
theorem Reps.two {sa : Addr} {N : Addr → Prop} {H : Hp} {xs : List V} {d1 d2 : D} (r : Reps K sa N H xs [d1, d2]) : ∃ v w, xs = [v, w] ∧ Rep K sa N H v d1 ∧ Rep K sa N H w d2 := by
  cases r with
  | cons r rs => cases rs with
    | cons r2 rs => cases rs; exact ⟨_, _, rfl, r, r2⟩
theorem o_min2 : OpN K (fun xs H Q => ∃ i j, xs = [.int i, .int j] ∧ Q (.int (if j < i then j else i)) H) gMin2 := ⟨fun sa N H xs as d Q r e nt k => by
  unfold gMin2 at e
  split at e
  · obtain ⟨v, w, rfl, r1, r2⟩ := r.two
    cases r1
    cases r2
    cases e
    exact ⟨_, _, rfl, k _ _ (Same.refl _) (.int _)⟩
  · cases e⟩
def gMax2 : List D → Option D
  | [.int i, .int j] => some (.int (if j > i then j else i))
  | _ => none
theorem o_max2 : OpN K (fun xs H Q => ∃ i j, xs = [.int i, .int j] ∧ Q (.int (if j > i then j else i)) H) gMax2 := ⟨fun sa N H xs as d Q r e nt k => by
  unfold gMax2 at e
  split at e
  · obtain ⟨v, w, rfl, r1, r2⟩ := r.two
    cases r1
    cases r2
    cases e
    exact ⟨_, _, rfl, k _ _ (Same.refl _) (.int _)⟩
  · cases e⟩
end
theorem ints_of_map : ∀ ns : List Int, intsOf (ns.map D.int) = some ns
  | [] => rfl
  | n :: r => by
    show (intsOf (r.map D.int)).map (n :: ·) = _
    rw [ints_of_map r]
    rfl
/-! ### comprehensions without effect -/
theorem compF_pure {g : EvG} {ft : EvT} {fe : EvE} {δ : Sls} {ω : Om} (p : D → Bool) (f : D → D) : ∀ {ds : List D}, (∀ d, d ∈ ds → ∃ δ1, g d δ ω = some δ1 ∧ ft δ1 ω = .ok (p d) ω ∧ (p d = true → fe δ1 ω = .ok (f d) ω)) → compF g ft fe δ ds ω = .ok ((ds.filter p).map f) ω
  | [], _ => rfl
  | d :: ds, h => by
    obtain ⟨δ1, h1, h2, h3⟩ := h d (by simp)
    have ih := compF_pure p f (ds := ds) fun x hx => h x (by simp [hx])
    unfold compF
    rw [h1]
    dsimp only
    rw [h2, Rs.bind_ok]
    by_cases hp : p d = true
    · rw [if_pos hp, h3 hp, Rs.bind_ok, ih, Rs.bind_ok, List.filter_cons_of_pos hp]
      rfl
    · rw [if_neg hp, ih, List.filter_cons_of_neg hp]
/-! ### the first draw of a state -/
def absI (i : Int) : Int := if i < 0 then -i else i
def om0 (ns : List Int) : Om := { great := (ns.filter fun i => decide ((10 : Int) ^ 18 ≤ absI i)).map fun i => absI i - 10 ^ 18, cells := ns.map absI, left := 0, turn := 0, acc := [] }
def spBegun (K : PySem.W.Frag) (T : List (Addr × Str)) : Sp := fun vs H Q _ => ∃ a ns, vs = [.ref a] ∧ SqL K H a (ns.map V.int) ∧ ns.length ≤ sizeLine ∧ Tabs T H ∧
  ∀ sa ga ca H', Fr (fun _ => False) H H' → ¬ Tr H sa → ¬ Tr H ga → ¬ Tr H ca → DrawG sa ga ca (om0 ns) H' → Tabs T H' → Q (.ref sa) H'
/-- what the first row of the first def is -/
def eBg1 : EvE := eComp (iLst (eVar 0)) (gdName 2) (tB (eOp2 gGe (eOpN gAbs (aCons (eVar 2) aNil)) (eOp2 gPow (eC (.int 10)) (eC (.int 18))))) (eOp2 gSub (eOpN gAbs (aCons (eVar 2) aNil)) (eOp2 gPow (eC (.int 10)) (eC (.int 18)))) [2]
def eBg2 : EvE := eComp (iLst (eVar 0)) (gdName 2) tTrue (eOpN gAbs (aCons (eVar 2) aNil)) [2]
theorem pow18 : gPow (.int 10) (.int 18) = some (.int ((10 : Int) ^ 18)) := by
  show (if CPow 10 18 then some (D.int ((10 : Int) ^ (18 : Int).toNat)) else none) = _
  rw [if_pos (by unfold CPow; decide)]
  rfl
theorem filter_ints {p : D → Bool} {q : Int → Bool} {f : D → D} {h : Int → Int} (hp : ∀ i, p (.int i) = q i) (hf : ∀ i, f (.int i) = .int (h i)) : ∀ ns : List Int, ((ns.map D.int).filter p).map f = ((ns.filter q).map h).map D.int
  | [] => rfl
  | n :: r => by
    rw [List.map_cons]
    by_cases e : q n = true
    · rw [List.filter_cons_of_pos (by rw [hp]; exact e), List.filter_cons_of_pos e, List.map_cons, List.map_cons, List.map_cons, hf, filter_ints hp hf r]
    · rw [List.filter_cons_of_neg (by rw [hp]; exact e), List.filter_cons_of_neg e, filter_ints hp hf r]
theorem eBg1_run {ns : List Int} {x y : Sl} {ω : Om} : eBg1 [.val (.scr ns), x, y] ω = .ok (.lst ((om0 ns).great.map .int)) ω := by
  unfold eBg1 eComp
  show (noErr (compF (gdName 2) _ _ _ (ns.map .int) ω)).bind _ = _
  rw [compF_pure (p := fun d => match d with | .int i => decide ((10 : Int) ^ 18 ≤ absI i) | _ => false) (f := fun d => match d with | .int i => .int (absI i - 10 ^ 18) | _ => .non)]
  · show Rs.ok (D.lst _) ω = _
    rw [filter_ints (q := fun i => decide ((10 : Int) ^ 18 ≤ absI i)) (h := fun i => absI i - 10 ^ 18) (fun _ => rfl) (fun _ => rfl)]
    rfl
  · intro d hd
    obtain ⟨i, _, rfl⟩ := List.mem_map.mp hd
    refine ⟨_, rfl, ?_, fun _ => ?_⟩
    · show ((rs1 (gPow (.int 10) (.int 18)) ω).bind fun b ω2 => rs1 (gGe (.int (absI i)) b) ω2).bind _ = _
      rw [pow18]
      rfl
    · show ((rs1 (gPow (.int 10) (.int 18)) ω).bind fun b ω2 => rs1 (gSub (.int (absI i)) b) ω2) = _
      rw [pow18]
      rfl
theorem eBg2_run {ns : List Int} {x y : Sl} {ω : Om} : eBg2 [.val (.scr ns), x, y] ω = .ok (.lst ((om0 ns).cells.map .int)) ω := by
  unfold eBg2 eComp
  show (noErr (compF (gdName 2) _ _ _ (ns.map .int) ω)).bind _ = _
  rw [compF_pure (p := fun _ => true) (f := fun d => match d with | .int i => .int (absI i) | _ => .non)]
  · show Rs.ok (D.lst _) ω = _
    rw [filter_ints (q := fun i => true) (h := absI) (fun _ => rfl) (fun _ => rfl)]
    rw [List.filter_eq_self.mpr fun _ _ => rfl]
    rfl
  · intro d hd
    obtain ⟨i, _, rfl⟩ := List.mem_map.mp hd
    exact ⟨_, rfl, rfl, fun _ => rfl⟩
theorem DSt.start {K : PySem.W.Frag} {P : PP} {M : Fm} {n : Nat} {N : List Str} {vs : List V} {ds : List D} {ω : Om} (pp : P M.sa M.Z M.G) (zn : ∀ b, M.Z b → M.N b) (gm : GM M.Z M.G) (g : M.G ω M.H0) (nt : ∀ b, M.N b → Tr M.H0 b) (r : Reps K M.sa M.N M.H0 vs ds) (hl : vs.length = n) (hn : N.length = n + (N.length - n)) :
    DSt K P M (fun _ => none) (L2.start N vs) M.H0 (ds.map .val ++ List.replicate (N.length - ds.length) .emp) ω := by
  refine ⟨pp, zn, gm, g, nt, Fr.refl _, ?_, fun i hi => ?_, fun i j a z => (by cases z), fun i a z => (by cases z)⟩
  · unfold L2.start
    simp only [List.length_append, List.length_map, List.length_replicate, r.len]
  · unfold L2.start
    have len := r.len
    by_cases hlt : i < ds.length
    · have hv : i < vs.length := by omega
      rw [List.getElem?_append_left (by simpa using hv), List.getElem?_append_left (by simpa using hlt), List.getElem?_map, List.getElem?_map]
      cases e : vs[i]? with
      | none => rw [List.getElem?_eq_none_iff] at e; omega
      | some v =>
        obtain ⟨d, hd, rd⟩ := r.get e
        rw [hd]
        exact .val (rd.less fun b hb _ => by
          rcases hb with hb | ⟨_, hb⟩
          · exact hb
          · cases hb)
    · have hv : vs.length ≤ i := by omega
      have e : ((ds.map Sl.val ++ List.replicate (N.length - ds.length) Sl.emp)[i]?).getD .emp = Sl.emp := by
        rw [List.getElem?_append_right (by simp; omega), List.getElem?_replicate]
        split <;> rfl
      rw [e]
      exact .emp
theorem scr_rep {K : PySem.W.Frag} {sa : Addr} {N : Addr → Prop} {H : Hp} {a : Addr} {ns : List Int} (h : SqL K H a (ns.map V.int)) (hl : ns.length ≤ sizeLine) (hn : Tr H a → ¬ N a) : Rep K sa N H (.ref a) (.scr ns) := by
  rcases h with (h | ⟨o, h⟩) | h
  · exact .scrL h (hn ⟨_, h, trivial⟩) hl
  · exact .scr (.inl ⟨o, h⟩) hl
  · exact .scr (.inr h) hl
abbrev PN : PP := fun _ _ _ => True
section
variable {Pr : Program} {w : World} {K : PySem.W.Frag} {mg : Str → Option Value} {base : Heap} {qual : Str} {std : Stmt} {f : Addr} {fd : FuncData} {k : Nat}
theorem mergeD (ga ca : Addr) : mergeK [] [(kGreat, V.ref ga), (kCells, .ref ca), (kLeft, .int 0), (kTurn, .int 0)] = [(kGreat, V.ref ga), (kCells, .ref ca), (kLeft, .int 0), (kTurn, .int 0)] := by
  simp only [mergeK, List.foldl, putK, List.any, List.map, Bool.or_false, Bool.false_or, decide_eq_true_eq, List.nil_append, List.append_nil, Bool.or_eq_true, Bool.false_eq_true, if_false, n_gc, n_gl, n_gt, n_cl, n_ct, n_lt, List.cons_append, false_or, or_false]
/-- the def that begins a state -/
theorem begun_ok {T : List (Addr × Str)} (F : Fun K "_law_begun" qual std f fd) (sc : FnScope ["script", "great", "cell"] ["script"] (defScope std)) (hv : Vis (defScope std) "great")
    (hb : ∀ (cdv : Value) (A : Around) (outer : List Env) (s : Shared) (H : Hp) (E : XK), Room k (A.deeper (envOfC qual (defScope std) s.heap.objs.size f cdv)) → Takes (cxOf (L2.CX Pr w) Pr w K mg base ["script", "great", "cell"] qual (defScope std) f cdv A outer s H E) (fun cls d _ H => E cls d H) →
      ∃ st1 lc2 q1 q2 q3 q4 q5 q6 q7 q8 q9, defBody std = [st1, .Return (some (.Dict [some (.Constant (.str "great") 0 q1), some (.Constant (.str "cells") 0 q2), some (.Constant (.str "left") 0 q3), some (.Constant (.str "turn") 0 q4)] [.Name "great" q5, lc2, .Constant (.int 0) 0 q6, .Constant (.int 0) 0 q7] q8)) q9] ∧
        PSd (cxOf (L2.CX Pr w) Pr w K mg base ["script", "great", "cell"] qual (defScope std) f cdv A outer s H E) ⟨E, PN⟩ st1 (sNewLc 1 eBg1) ∧
        ∃ t, PE (cxOf (L2.CX Pr w) Pr w K mg base ["script", "great", "cell"] qual (defScope std) f cdv A outer s H E) lc2 t ∧ ∀ M al σ H δ ω Q, DSt K PN M al σ H δ ω → PostR K M al σ H δ (fun H' v d => ∃ L xs ds, v = .ref L ∧ ¬ Tr H L ∧ d = .lst ds ∧ H' L = some (.lst xs) ∧ xs.length ≤ sizeLine ∧ Reps K M.sa (NA M.N al) H' xs ds) (eBg2 δ ω) Q ⟨E, PN⟩ → t σ H Q) :
    FnOk Pr w K mg base (L2.CX Pr w) (k + 1) f fd ["script"] (spBegun K T) := by
  refine F.okX sc (fun vs H Q E ⟨a, ns, h, _⟩ => by rw [h]; rfl) fun cdv A outer s H vs Q E hr h => ?_
  obtain ⟨a, ns, rfl, hs, hl, tT, h⟩ := h
  obtain ⟨st1, lc2, q1, q2, q3, q4, q5, q6, q7, q8, q9, eb, hst, t2, p2, hl2⟩ := hb cdv A outer s H E hr (takes_of rfl rfl rfl rfl)
  obtain ⟨t1, p1, h1⟩ := hst.ex
  have p3 := pps_cons (pos := q8) (pe_str (X := cxOf (L2.CX Pr w) Pr w K mg base ["script", "great", "cell"] qual (defScope std) f cdv A outer s H E) (pos := q1) (x := "great") (j := 0)) (pe_var (i := 1) (x := "great") (pos := q5) rfl hv (by decide) (by decide)) (pps_cons (pe_str (pos := q2) (x := "cells") (j := 0)) p2 (pps_cons (pe_str (pos := q3) (x := "left") (j := 0)) (pe_int (i := 0) (pos := q6) (j := 0)) (pps_cons (pe_str (pos := q4) (x := "turn") (j := 0)) (pe_int (i := 0) (pos := q7) (j := 0)) pps_nil)))
  refine ⟨_, by rw [eb]; exact pss_cons p1 (pss_one (ps_ret (pe_disp p3 rfl rfl (by simp) (by show (4 : Nat) ≤ 15; decide)))), ?_⟩
  let M : Fm := ⟨0, fun _ => False, fun _ => False, fun _ H => Tabs T H, H⟩
  have S0 : DSt K PN M (fun _ => none) (L2.start ["script", "great", "cell"] [V.ref a]) H [.val (.scr ns), .emp, .emp] (om0 ns) :=
    DSt.start (M := M) (N := ["script", "great", "cell"]) (n := 1) (ds := [.scr ns]) trivial (fun _ z => z) (fun ω H H' kk t => Tabs.of_keep t fun b o e ko => kk b o e (.inr ko)) tT (fun _ z => z.elim) (.cons (scr_rep hs hl fun _ z => z) .nil) rfl rfl
  refine h1 M _ _ _ _ (om0 ns) _ S0 ?_
  have e1 : sNewLc 1 eBg1 [.val (.scr ns), .emp, .emp] (om0 ns) = .ok (.nx [.val (.scr ns), .own ((om0 ns).great.map .int), .emp]) (om0 ns) := by
    unfold sNewLc
    rw [if_pos (by show (1 : Nat) < 3; decide), eBg1_run]
    rfl
  rw [e1]
  intro al' σ' H' S1 f1 x1 p hp
  obtain ⟨ga, gxs, hga, hσ, hgv, hgl, hgr⟩ := S1.ownAt (i := 1) (ds := (om0 ns).great.map .int) rfl
  have hp2 : p ≠ ga := fun z => by rw [z, hgv] at hp; cases hp
  have sm := same_upd (o := .dK []) hp
  have S2 := S1.same sm
  refine ⟨_, hσ, hl2 M al' σ' _ _ (om0 ns) _ S2 ?_⟩
  rw [eBg2_run]
  rintro v H2 S3 f3 ⟨ca, cxs, cds, rfl, hca, ed, hcv, hcl, hcr⟩
  injection ed with ed
  subst ed
  have hpd : H2 p = some (.dK []) := f3.keep _ _ upd_same (fun z => z)
  obtain ⟨ga', gxs', hga', hσ', hgv', hgl', hgr'⟩ := S3.ownAt (i := 1) (ds := (om0 ns).great.map .int) rfl
  have eg : ga' = ga := Option.some.inj (hga'.symm.trans hga)
  subst eg
  refine ⟨hpd, [(kGreat, .ref ga'), (kCells, .ref ca), (kLeft, .int 0), (kTurn, .int 0)], rfl, by show (4 : Nat) ≤ 15; decide, ?_⟩
  have n1 : ga' ≠ p := fun z => hp2 z.symm
  have n2 : ca ≠ p := fun z => by rw [z, hpd] at hcv; cases hcv
  have n3 : ga' ≠ ca := fun z => hca (z ▸ ⟨_, sm _ _ hgv, trivial⟩)
  have frH : Fr (fun _ => False) H H2 := S3.fr
  have tp : ¬ Tr H p := fun z => Tr.not hp (S1.fr.there p z)
  have tg : ¬ Tr H ga' := (S1.fresh 1 ga' hga).1
  have tc : ¬ Tr H ca := fun z => hca (S2.fr.there ca z)
  have ig := ints_of_reps hgr' (ints_of_map _)
  have ic := ints_of_reps hcr (ints_of_map _)
  refine h p ga' ca _ ⟨fun b o e ko => ?_, fun b t => ?_⟩ tp tg tc ⟨?_, ?_, ?_, n3, ?_, ?_⟩ (tabs_put hpd trivial (fun z => z trivial) S3.g)
  · have nb : b ≠ p := fun z => tp (z ▸ ⟨o, e, .of_keep ko⟩)
    rw [upd_ne nb]
    exact frH.keep b o e ko
  · by_cases nb : b = p
    · subst nb
      exact absurd t tp
    · obtain ⟨o, e, n⟩ := frH.there b t
      exact ⟨o, by rw [upd_ne nb]; exact e, n⟩
  · rw [upd_same, mergeD]
    rfl
  · rw [upd_ne n1, hgv', ig]
  · rw [upd_ne n2, hcv, ic]
  · rw [ig, List.length_map] at hgl'
    exact hgl'
  · rw [ic, List.length_map] at hcl
    exact hcl
end
end DL

namespace DL
open PySem PySem.Spec PyProof.Rows L2 LamX
/-! ### the law's own def -/
def tBegun (K : PySem.W.Frag) (T : List (Addr × Str)) (E : XK) : TE := fun σ H Q => ∃ v, σ[0]? = some (some v) ∧ spBegun K T [v] H Q E
section
variable {X : Cx} {T : List (Addr × Str)} {W : XK}
/-- state = _law_begun(script) -/
theorem ps_begun {k : Nat} {f : Addr} {fd : FuncData} {p p1 p2 p3 pos : Pos} (F : FnOk X.prog X.w X.K X.mg X.base (L2.CX X.prog X.w) k f fd ["script"] (spBegun X.K T)) (hr : Room k X.A) (hm : X.mg "_law_begun" = some (.ref f)) (hk : PySem.W.keepIn X.K (.ref f) = true) (hb : Binds X.K fd ["script"] [])
    (tk : Takes X (fun cls d _ H => W cls d H)) (hN : X.N.Nodup) (h0 : X.N[0]? = some ("script" : Str)) (h1 : X.N[1]? = some ("state" : Str)) (hv : Vis X.env.scope "script") (hx : Loc X.env.scope "state") (hf : X.fn ("state" : Str) = true ∨ X.env.scope.names.lookup ("state" : Str) = some .local) (hg : Gl X "_law_begun" := by rfl)
    (he : starEach [.Name "script" p1] X.env = [(false, eval (.Name "script" p1) X.env)] := by rfl) (hpl : (backTo p2 (starEach [] X.env)).any (·.1) = false := by rfl)
    (hs : swapsWith (.Call (.Name "_law_begun" p) [.Name "script" p1] [] p2) (some (.Name "state" p3)) pos.line X.env = pure false := by rfl) :
    PS X (.Assign [.Name "state" p3] (.Call (.Name "_law_begun" p) [.Name "script" p1] [] p2) pos) (tAsg (tBegun X.K T W) (gName 1)) := by
  have h := pe_callS (E := fun _ => W) F hr hg hm hk hb (fun σ => passAt tk σ) (pa_cons (pe_var h0 hv (by decide) (by decide)) pa_nil he) (by decide) he hpl (pos := p2) (p := p)
  refine ⟨fun pins s σ H D I q => (ps_set (i := 1) hN h1 hx h hs hf).run pins s σ H D I ?_⟩
  obtain ⟨v, e1, q⟩ := q
  exact ⟨v, e1, q⟩
end
def spLaw (K : PySem.W.Frag) (T : List (Addr × Str)) (n : Nat) (g : EvS) : Sp := fun vs H Q _ => ∃ a ns, vs = [.ref a] ∧ SqL K H a (ns.map V.int) ∧ ns.length ≤ sizeLine ∧ Tabs T H ∧
  (∃ ω', g (.val (.scr ns) :: .val .st :: List.replicate n .emp) (om0 ns) = .ok (.rt (.bl true)) ω') ∧ ∀ H', Q (.bl true) H'
section
variable {Pr : Program} {w : World} {K : PySem.W.Frag} {mg : Str → Option Value} {base : Heap} {x qual : Str} {std : Stmt} {f : Addr} {fd : FuncData} {k : Nat}
theorem law_ok {T : List (Addr × Str)} {N : List Str} {g : EvS} (F : Fun K x qual std f fd) (sc : FnScope ("script" :: "state" :: N) ["script"] (defScope std))
    (hb : ∀ (cdv : Value) (A : Around) (outer : List Env) (s : Shared) (H : Hp) (E : XK), Room k (A.deeper (envOfC qual (defScope std) s.heap.objs.size f cdv)) → Takes (cxOf (L2.CX Pr w) Pr w K mg base ("script" :: "state" :: N) qual (defScope std) f cdv A outer s H E) (fun cls d _ H => E cls d H) →
      ∃ st0 rest, defBody std = st0 :: rest ∧ PS (cxOf (L2.CX Pr w) Pr w K mg base ("script" :: "state" :: N) qual (defScope std) f cdv A outer s H E) st0 (tAsg (tBegun K T E) (gName 1)) ∧
        PSsd (cxOf (L2.CX Pr w) Pr w K mg base ("script" :: "state" :: N) qual (defScope std) f cdv A outer s H E) ⟨E, PD T⟩ rest g) :
    FnOk Pr w K mg base (L2.CX Pr w) (k + 1) f fd ["script"] (spLaw K T N.length g) := by
  refine F.okX sc (fun vs H Q E ⟨a, ns, h, _⟩ => by rw [h]; rfl) fun cdv A outer s H vs Q E hr h => ?_
  obtain ⟨a, ns, rfl, hs, hl, tT, ⟨ω', hg⟩, h⟩ := h
  obtain ⟨st0, rest, eb, p0, hrest⟩ := hb cdv A outer s H E hr (takes_of rfl rfl rfl rfl)
  obtain ⟨t, p1, q1⟩ := hrest.ex
  refine ⟨_, by rw [eb]; exact pss_cons p0 p1, ?_⟩
  refine ⟨_, rfl, a, ns, rfl, hs, hl, tT, fun sa ga ca H' fr n1 n2 n3 dg tT' => ?_⟩
  let Z : Addr → Prop := fun b => b = sa ∨ b = ga ∨ b = ca
  let M : Fm := ⟨sa, Z, Z, fun ω H => DrawG sa ga ca ω H ∧ Tabs T H, H'⟩
  have na : Tr H a → ¬ Z a := fun t z => by
    rcases z with z | z | z
    · exact n1 (z ▸ t)
    · exact n2 (z ▸ t)
    · exact n3 (z ▸ t)
  have rs : Rep K sa Z H' (.ref a) (.scr ns) := by
    have r := scr_rep (N := Z) (sa := sa) hs hl na
    exact r.mono (Z := fun _ => False) fr fun _ z => z.elim
  have S0 : DSt K (PD T) M (fun _ => none) (L2.start ("script" :: "state" :: N) [V.ref a, V.ref sa]) H' ([D.scr ns, D.st].map .val ++ List.replicate N.length .emp) (om0 ns) := by
    refine DSt.start (M := M) (n := 2) (ds := [.scr ns, .st]) ⟨ga, ca, rfl, rfl⟩ (fun _ z => z) PD.gm ⟨dg, tT'⟩ (fun b z => ?_) (.cons rs (.cons .st .nil)) rfl (by show N.length + 1 + 1 = 2 + (N.length + 1 + 1 - 2); omega)
    rcases z with z | z | z
    · rw [z]; exact ⟨_, dg.d, trivial⟩
    · rw [z]; exact ⟨_, dg.g, trivial⟩
    · rw [z]; exact ⟨_, dg.c, trivial⟩
  have es : (L2.start ("script" :: "state" :: N) [V.ref a]).set 1 (some (V.ref sa)) = L2.start ("script" :: "state" :: N) [V.ref a, V.ref sa] := by
    unfold L2.start
    rfl
  show t _ ((L2.start ("script" :: "state" :: N) [V.ref a]).set 1 (some (V.ref sa))) H'
  rw [es]
  refine q1 M _ _ _ _ (om0 ns) _ S0 ?_
  show PostS _ M _ _ (g (.val (.scr ns) :: .val .st :: List.replicate N.length .emp) (om0 ns)) _ _
  rw [hg]
  intro v H2 _ _ r
  cases r
  exact h H2
end
/-! ### what a draw is -/
def blendP (turn : Int) (cells : List Int) (prime : Int) : Int := cells.foldl (fun b c => (b * 66889 + c + turn) % prime) (46819 * turn + prime / 89)
def blendV (ω : Om) : Int := [2147481529, 2147481509, 2147481499].foldl (fun f p => f * 2147483647 + (blendP (ω.turn + 1) ω.cells p) ^ 5 % p) 0
/-- the state when something is left -/
def refill (ω : Om) : Om := if ω.left = 0 then (match ω.great with
  | g :: gs => { ω with great := gs, left := g }
  | [] => { ω with left := blendV ω, turn := ω.turn + 1 }) else ω
def drawI (n : Int) (ω : Om) : Int := (refill ω).left % n
def drawO (n : Int) (ω : Om) : Om := { refill ω with left := (refill ω).left / n }
/-- what draws may be asked of -/
structure Fine (ω : Om) : Prop where
  t0 : 0 ≤ ω.turn
  t1 : ω.turn < 2 ^ 40
end DL

namespace DL
open PySem PySem.Spec PyProof.Rows L2 LamX
/-! ### enumerate over a text -/
def Ites (x : Str) : It :=
  ⟨fun i H => i < x.cps.size, fun i H v H' => ∃ T c, v = .ref T ∧ H T = none ∧ H' = upd H T (.tup [.int (i : Nat), .str ⟨#[c]⟩]) ∧ x.cps[i]? = some c, fun i H => x.cps.size ≤ i⟩
theorem turn_enumS {P : Program} {w : World} {K : PySem.W.Frag} {elts : List Expr} {kk : Nat} {tpos : Pos} (x : Str) (t : Tok) (e it : Addr) :
    Turn P w K (.Tuple elts kk tpos) (Ites x) [e, it] e (fun i h => (∃ old, IsEnum h e it ((i : Nat) : Int) old) ∧ h.IsStrIter it (strIterType x) x t i ∧ e ≠ it ∧ i ≤ x.cps.size) where
  mem := by simp
  obj := fun i h st b hb => by
    obtain ⟨⟨old, he⟩, ⟨o, ho, hc, hd⟩, _⟩ := st
    have e' : b = e ∨ b = it := by simpa using hb
    rcases e' with z | z
    · rw [z]; exact ⟨_, he, fun v q => nomatch q⟩
    · rw [z]; exact ⟨o, ho, fun v q => by rw [hd] at q; cases q⟩
  keep := fun i h h' st k => by
    obtain ⟨⟨old, he⟩, ⟨o, ho, r⟩, hne, hi⟩ := st
    exact ⟨⟨old, k e (by simp) _ he⟩, ⟨o, k it (by simp) o ho, r⟩, hne, hi⟩
  item := by
    intro X hP hw hK hc i pins s σ H E I hf st hg
    subst hP hw hK
    obtain ⟨⟨old, he⟩, hit, hne, _⟩ := st
    have hel : e < s.heap.objs.size := Heap.lt_size he
    have hil : it < s.heap.objs.size := by obtain ⟨_, q, _⟩ := hit; exact Heap.lt_size q
    have DT := Draws.text (prog := X.prog) (w := X.w) (A := X.A.in1) (I.ok.hd hc) it x t
    refine wpAny_pyNext_enum_itemC DT he hit hg hne (by simpa using hne) fun u h' tk hu ho hit' hT hsz hk => ?_
    obtain ⟨c, tc, hcx, rfl⟩ := hu
    refine ⟨_, rfl, wpAny_letOwnedTupleGo_enum (s := { s with heap := h', toks := tk + 1 }) ho fun h'' he' sb => ?_⟩
    have hT2 : h''.get? s.heap.objs.size = some { cls := .type "tuple", data := .seq #[.int i tk, .str ⟨#[c]⟩ tc] } := (sb.2 _ (Nat.ne_of_gt hel)).trans hT
    have new : ObjOk X.prog X.w (upd H s.heap.objs.size (.tup [.int (i : Nat), .str ⟨#[c]⟩])) h'' s.heap.objs.size (.tup [.int (i : Nat), .str ⟨#[c]⟩]) :=
      ⟨by show 2 ≤ sizeLine; decide, [.int i tk, .str ⟨#[c]⟩ tc], .cons ⟨_, rfl⟩ (.cons ⟨_, rfl⟩ .nil), ⟨_, hT2, rfl, _, rfl⟩⟩
    have I1 : Inv X pins σ (upd H s.heap.objs.size (.tup [.int (i : Nat), .str ⟨#[c]⟩])) { s with heap := h'', toks := tk + 1 } :=
      I.turnedNew (ch := [e, it]) (fun b ob hb q => (sb.2 b (fun z => hb (by simp [z]))).trans (hk b ob (fun z => hb (by simp [z])) (fun z => hb (by simp [z])) q)) hf (Nat.le_refl _) new
    refine ⟨.ref s.heap.objs.size, _, I1, rfl, ⟨_, c, rfl, I.hok.fresh (Nat.le_refl _), rfl, hcx⟩, ⟨⟨.str ⟨#[c]⟩ tc, ?_⟩, ?_, hne, hg⟩, fun b hb => ?_⟩
    · have e1 : ((i + 1 : Nat) : Int) = (i : Int) + 1 := by omega
      rw [e1]; exact he'
    · obtain ⟨o, q1, q2⟩ := hit'
      exact ⟨o, (sb.2 it (Ne.symm hne)).trans q1, q2⟩
    · have hb' : b < s.heap.objs.size := by
        have e' : b = e ∨ b = it := by simpa using hb
        rcases e' with z | z
        · rw [z]; exact hel
        · rw [z]; exact hil
      rw [upd_ne (Nat.ne_of_lt hb')]
      exact (hf b hb).1
  done := by
    intro X hP hw hK hc i pins s σ H E I hf st hg
    subst hP hw hK
    obtain ⟨⟨old, he⟩, hit, hne, hi⟩ := st
    obtain ⟨f0, f1, f2, f3, f4, f5⟩ := hf it (by simp)
    have DT := Draws.text (prog := X.prog) (w := X.w) (A := X.A.in1) (I.ok.hd hc) it x t
    have ei : i = x.cps.size := Nat.le_antisymm hi hg
    rw [ei] at hit
    exact wpAny_pyNext_enum_endD DT he hit fun h' eb => ⟨rfl, I.turned (t' := s.toks) (fun b o hb q => eb b o hb q) f0 f1 f3 f4 f5⟩
  self := fun A i s Q E st h => let ⟨⟨_, he⟩, _⟩ := st; wpAny_pyIter_enum he h
end DL

namespace DL
open PySem PySem.Spec PyProof.Rows L2 LamX
section
variable {X : Cx} {W : Wt} {K : PySem.W.Frag} {M : Fm} {al : Nat → Option Addr} {σ : L2.St} {H : Hp} {δ : Sls}
variable {a b e c : Expr} {es : List Expr} {fa fb fc : EvE} {ft fu : EvT} {fs : EvA} {pos : Pos}
/-! ### walking a text -/
def signs (x : Str) : List D := x.cps.toList.map fun c => .str ⟨#[c]⟩
theorem signs_length (x : Str) : (signs x).length = x.cps.size := by
  unfold signs
  rw [List.length_map, Array.length_toList]
theorem signs_get {x : Str} {i c : Nat} (h : x.cps[i]? = some c) : (signs x)[i]? = some (.str ⟨#[c]⟩) := by
  unfold signs
  rw [List.getElem?_map, Array.getElem?_toList, h]
  rfl
def iStrD (fa : EvE) : EvI := fun δ ω => (fa δ ω).bind fun d ω1 => match d with
  | .str x => if x.length ≤ sizeLine then .ok (signs x) ω1 else .bad
  | _ => .bad
theorem itD_str {sa : Addr} {N : Addr → Prop} {x : Str} (hl : x.length ≤ sizeLine) : ItD K sa N (Its x) H (signs x) := ⟨by rw [signs_length]; exact hl, fun N' Z hn hz i H' f => by
  rw [signs_length]
  refine ⟨fun hi => ⟨hi, fun v H'' y => ?_⟩, fun hi => hi⟩
  obtain ⟨rfl, c, hc, rfl⟩ := y
  exact ⟨Same.refl _, _, signs_get hc, .str _⟩⟩
theorem id_str {tg : Expr} (h : PEd X W e fa) : PId X W tg e (iStrD fa) := by
  obtain ⟨t, p1, q1⟩ := h.ex
  refine ⟨_, pi_str p1, fun M al σ H δ ω R S h => ?_⟩
  refine q1 M al σ H δ ω _ S (post_mono (fun x H1 h1 => ?_) (post_bind (rel := relE X.K M al) h))
  obtain ⟨d1, ω1, e1, S1, f1, r1, h1⟩ := h1
  cases r1 with
  | str x =>
    dsimp only at h1
    split at h1
    · rename_i hl
      exact ⟨_, rfl, h1 _ _ S1 f1 (itD_str hl)⟩
    · exact h1.elim
  | _ => exact h1.elim
/-- enumerate(text) -/
def esigns (x : Str) : List D := x.cps.toList.zipIdx.map fun p => .tup [.int (p.2 : Nat), .str ⟨#[p.1]⟩]
theorem esigns_length (x : Str) : (esigns x).length = x.cps.size := by
  unfold esigns
  rw [List.length_map, List.length_zipIdx, Array.length_toList]
theorem esigns_get {x : Str} {i c : Nat} (h : x.cps[i]? = some c) : (esigns x)[i]? = some (.tup [.int (i : Nat), .str ⟨#[c]⟩]) := by
  unfold esigns
  rw [List.getElem?_map, List.getElem?_zipIdx, Array.getElem?_toList, h]
  simp
def iEnumS (fs : EvA) : EvI := fun δ ω => (fs δ ω).bind fun ds ω1 => match ds with
  | [.str x] => if x.length ≤ sizeLine then .ok (esigns x) ω1 else .bad
  | _ => .bad
theorem itD_enumS {sa : Addr} {N : Addr → Prop} {x : Str} (hl : x.length ≤ sizeLine) : ItD K sa N (Ites x) H (esigns x) := ⟨by rw [esigns_length]; exact hl, fun N' Z hn hz i H' f => by
  rw [esigns_length]
  refine ⟨fun hi => ⟨hi, fun v H'' y => ?_⟩, fun hi => hi⟩
  obtain ⟨T, c, rfl, hT, rfl, hc⟩ := y
  exact ⟨same_upd hT, _, esigns_get hc, .tup (SqT.of upd_same) (by show 2 ≤ sizeLine; decide) (.cons (.int _) (.cons (.str _) .nil))⟩⟩
theorem pi_enumS {ta : TA} {p tpos : Pos} {elts : List Expr} {kk : Nat} (hg : Gl X "enumerate") (hm : X.mg "enumerate" = none) (ha : PA X [e] ta) (hs : starEach [e] X.env = [(false, eval e X.env)] := by rfl) :
    PI X (.Tuple elts kk tpos) (.Call (.Name "enumerate" p) [e] [] pos) (fun σ H R => ta σ H fun vs H1 => ∃ x, vs = [.str x] ∧ R (Ites x) H1) := by
  refine ⟨fun pins s σ H R I h => ?_⟩
  refine Call_ (ld_blt I hg hm boot_enumerate (PyProof.Rows.callWith_type1 (thn (ha.run pos pins s σ H _ I h) fun us s1 ⟨vs, H1, I1, r1, q1⟩ => ?_) hs rfl))
  obtain ⟨x, ex, q⟩ := q1
  subst ex
  cases r1 with
  | cons r rr =>
    cases rr
    obtain ⟨t, rfl⟩ := r
    refine call_enumerate_str fun h' he hit hsz hk => wpAny_pyIter_enum he ?_
    have I2 : Inv X pins σ H1 { s1 with heap := h' } := I1.kept (t' := s1.toks) hk
    refine ⟨s1.heap.objs.size + 1, [s1.heap.objs.size + 1, s1.heap.objs.size], _, _, H1, rfl, I2, turn_enumS x t (s1.heap.objs.size + 1) s1.heap.objs.size, ⟨⟨.none, he⟩, hit, Nat.succ_ne_self _, Nat.zero_le _⟩, fun b hb => ?_, q⟩
    have e' : b = s1.heap.objs.size + 1 ∨ b = s1.heap.objs.size := by simpa using hb
    have hle : s1.heap.objs.size ≤ b := by
      rcases e' with z | z
      · rw [z]; exact Nat.le_add_right _ _
      · rw [z]; exact Nat.le_refl _
    exact I1.fpOk hle (I1.hok.fresh hle)
theorem id_enumS {p tpos : Pos} {elts : List Expr} {kk : Nat} (hm : X.mg "enumerate" = none) (h : PAd X W [a] fs) (hg : Gl X "enumerate" := by rfl) (hs : starEach [a] X.env = [(false, eval a X.env)] := by rfl) : PId X W (.Tuple elts kk tpos) (.Call (.Name "enumerate" p) [a] [] pos) (iEnumS fs) := by
  obtain ⟨t, p1, q1⟩ := h.ex
  refine ⟨_, pi_enumS hg hm p1 hs, fun M al σ H δ ω R S h => ?_⟩
  refine q1 M al σ H δ ω _ S (post_mono (fun x H1 h1 => ?_) (post_bind (rel := relA X.K M al) h))
  obtain ⟨d1, ω1, e1, S1, f1, r1, h1⟩ := h1
  split at h1
  · obtain ⟨v, rfl, r⟩ := r1.one
    cases r
    split at h1
    · rename_i hl
      exact ⟨_, rfl, h1 _ _ S1 f1 (itD_enumS hl)⟩
    · exact h1.elim
  · exact h1.elim
/-! ### a text from behind -/
def revS (x : Str) : Str := ⟨x.cps.toList.reverse.toArray⟩
theorem rev_pick (x : Str) : ((Builtin.Str.strSliceIndices none none (-1) x.length).filterMap (x.cps[·]?)).toArray = x.cps.toList.reverse.toArray := by
  have e : Builtin.Str.strSliceIndices none none (-1) x.length = (List.range x.length).reverse := by
    rw [← PySem.W.krv_range, ← PySem.W.krv_sliceRange]
    rfl
  rw [e, List.filterMap_reverse]
  exact congrArg List.toArray (congrArg List.reverse (PySem.W.krv_all x.cps))
def eRevS (fa : EvE) : EvE := fun δ ω => (fa δ ω).bind fun d ω1 => match d with
  | .str x => if x.length ≤ sizeLine then .ok (.str (revS x)) ω1 else .bad
  | _ => .bad
theorem pe_revS {te : TE} {k : Nat} {p1 p2 p3 : Pos} (he : PE X e te) : PE X (.Subscript e (.Slice none none (some (.UnaryOp .USub (.Constant (.int 1) k p1) p2)) p3) pos) (fun σ H Q => te σ H fun x H1 => ∃ z, x = .str z ∧ z.length ≤ sizeLine ∧ Q (.str (revS z)) H1) := by
  refine ⟨fun pins s σ H Q I h => ?_⟩
  refine Subscript_ (thn (he.run pins s σ H _ I h) fun v s1 ⟨x, H1, I1, r1, q1⟩ => ?_)
  obtain ⟨z, ex, hz, q⟩ := q1
  subst ex
  obtain ⟨t, rfl⟩ := r1
  have hst : PO X (some (.UnaryOp .USub (.Constant (.int 1) k p1) p2)) (tPart (tUn (rU fun i => .int (-i)) (tC (.int 1)))) := po_some (pe_un un_neg pe_int)
  refine wpAny_Slice (thn (po_none.run pins s1 σ H1 (fun o H2 => o = none ∧ H2 = H1) I1 ⟨rfl, rfl⟩) fun vl s2 ⟨l, H2, I2, pl, el, e2⟩ => ?_)
  subst el e2
  refine thn (po_none.run pins s2 σ H2 (fun o H3 => o = none ∧ H3 = H2) I2 ⟨rfl, rfl⟩) fun vu s3 ⟨u, H3, I3, pu, eu, e3⟩ => ?_
  subst eu e3
  refine thn (hst.run pins s3 σ H3 (fun o H4 => o = some (-1) ∧ H4 = H3) I3 ⟨1, rfl, -1, rfl, rfl, rfl⟩) fun vs s4 ⟨o, H4, I4, ps, eo, e4⟩ => ?_
  subst eo e4
  have I5 : Inv X pins σ H4 { s4 with heap := s4.heap.push { cls := .type "slice", data := .fields #[vl, vu, vs] } } := I4.kept (t' := s4.toks) fun b ob q => Heap.get?_push_of_some _ q
  show wpAny (model X.prog X.w) X.A (subscriptTail e (.Slice none none (some (.UnaryOp .USub (.Constant (.int 1) k p1) p2)) p3) (.str z t) (.ref s4.heap.objs.size)) (EP X pins σ Q) X.xe { s4 with heap := s4.heap.push { cls := .type "slice", data := .fields #[vl, vu, vs] } }
  refine tail_any (ops := [.str z t, .ref s4.heap.objs.size]) (typeIs_str _ _ _) (PySem.F.slot_str_getitem.lookup) ?_ (by with_unfolding_all rfl)
  obtain ⟨l, rfl, hl⟩ := IsPart.raw pl
  obtain ⟨u, rfl, hu⟩ := IsPart.raw pu
  obtain ⟨w, rfl, hw⟩ := IsPart.raw ps
  refine wpAny_getItem_str_slice (l := l) (u := u) (st := w) ⟨_, Heap.get?_push_size _ rfl, rfl, rfl⟩ (by rw [hw]; rfl) ?_
  unfold sliceMade slicePicked
  rw [hl, hu, hw]
  rw [if_neg (by simp)]
  have e5 : (((Builtin.Str.strSliceIndices none none ((some (-1) : Option Int).getD 1) z.length).filterMap (z.cps[·]?)).toArray) = z.cps.toList.reverse.toArray := rev_pick z
  rw [e5]
  have hz2 : z.cps.size ≤ sizeLine := hz
  exact ⟨by show (z.cps.toList.reverse.toArray).size ≤ sizeLine; simpa using hz2, .str (revS z), H4, I5.tok _, ⟨_, rfl⟩, q⟩
theorem pd_revS {k : Nat} {p1 p2 p3 : Pos} (he : PEd X W e fa) : PEd X W (.Subscript e (.Slice none none (some (.UnaryOp .USub (.Constant (.int 1) k p1) p2)) p3) pos) (eRevS fa) := by
  obtain ⟨t, p, q⟩ := he.ex
  refine ⟨_, pe_revS p, fun M al σ H δ ω Q S h => ?_⟩
  refine q M al σ H δ ω _ S (post_mono (fun x H1 h1 => ?_) (post_bind (rel := relE X.K M al) h))
  obtain ⟨d1, ω1, e1, S1, f1, r1, h1⟩ := h1
  cases r1 with
  | str x =>
    dsimp only at h1
    split at h1
    · rename_i hl
      exact ⟨_, rfl, hl, h1 _ _ S1 f1 (.str _)⟩
    · exact h1.elim
  | _ => exact h1.elim
/-! ### a op b op c -/
def eChain (g g' : D → D → Option D) (fa fb fc : EvE) : EvE := fun δ ω => (fa δ ω).bind fun a ω1 => (fb δ ω1).bind fun b ω2 => match g a b with
  | some (.bl true) => (fc δ ω2).bind fun c ω3 => rs1 (g' b c) ω3
  | some (.bl false) => .ok (.bl false) ω2
  | _ => .bad
theorem pd_chain {op op' : CmpOp} {r r' : R2} {g g' : D → D → Option D} (ho : OpR X (compareOp op) r) (ho' : OpR X (compareOp op') r') (hg : Op2 X.K r g) (hg' : Op2 X.K r' g') (ha : PEd X W a fa) (hb : PEd X W b fb) (hc : PEd X W c fc)
    (hm : lastMarks [op, op'] [b, c] = false := by with_unfolding_all rfl) : PEd X W (.Compare a [op, op'] [b, c] pos) (eChain g g' fa fb fc) := by
  obtain ⟨ta, p1, q1⟩ := ha.ex
  obtain ⟨tb, p2, q2⟩ := hb.ex
  obtain ⟨tc, p3, q3⟩ := hc.ex
  refine ⟨_, pe_chain ho ho' p1 p2 p3 hm, fun M al σ H δ ω Q S h => ?_⟩
  refine q1 M al σ H δ ω _ S (post_mono (fun x H1 h1 => ?_) (post_bind (rel := relE X.K M al) h))
  obtain ⟨d1, ω1, _, S1, f1, r1, h1⟩ := h1
  refine q2 M al σ H1 δ ω1 _ S1 (post_mono (fun y H2 h2 => ?_) (post_bind (rel := relE X.K M al) (post_from f1 h1)))
  obtain ⟨d2, ω2, _, S2, f2, r2, h2⟩ := h2
  split at h2
  · rename_i eg
    refine hg.ok M.sa (NA M.N al) H2 x y d1 d2 _ _ (r1.mono f2 S1.zna) r2 eg S2.naT fun v H3 sm rv => ?_
    cases rv
    refine ⟨true, rfl, ?_⟩
    rw [if_pos rfl]
    refine q3 M al σ H3 δ ω2 _ (S2.same sm) (post_mono (fun z H4 h4 => ?_) (post_bind (rel := relE X.K M al) (post_from (f2.trans (.same sm)) h2)))
    obtain ⟨d3, ω3, _, S4, f4, r3, h4⟩ := h4
    unfold rs1 at h4
    split at h4
    · rename_i d e
      exact hg'.ok M.sa (NA M.N al) H4 y z d2 d3 d Q ((same_rep sm r2).mono f4 S2.zna) r3 e S4.naT fun v H' s q => h4 v H' (S4.same s) (f4.trans (.same s)) q
    · exact h4.elim
  · rename_i eg
    refine hg.ok M.sa (NA M.N al) H2 x y d1 d2 _ _ (r1.mono f2 S1.zna) r2 eg S2.naT fun v H3 sm rv => ?_
    cases rv
    refine ⟨false, rfl, ?_⟩
    rw [if_neg (by decide)]
    exact h2 _ H3 (S2.same sm) (f2.trans (.same sm)) (.bl false)
  · exact h2.elim
/-! ### texts -/
def gLeS : D → D → Option D
  | .str i, .str j => some (.bl (!decide (j.cps.toList < i.cps.toList)))
  | _, _ => none
theorem o_leS : Op2 K (fun x y H Q => ∃ i j, x = .str i ∧ y = .str j ∧ Q (.bl (!decide (j.cps.toList < i.cps.toList))) H) gLeS := ⟨fun sa N H x y a b d Q ra rb e nt k => by
  unfold gLeS at e
  split at e
  · cases ra
    cases rb
    cases e
    exact ⟨_, _, rfl, rfl, k _ _ (Same.refl _) (.bl _)⟩
  · cases e⟩
/-- x in text, x one sign -/
def gInS (neg : Bool) : D → D → Option D
  | .str x, .str z => match x.cps.toList with
    | [c] => some (.bl (if neg then !decide (c ∈ z.cps.toList) else decide (c ∈ z.cps.toList)))
    | _ => none
  | _, _ => none
theorem one_sign {x : Str} {c : Nat} (h : x.cps.toList = [c]) : x = ⟨#[c]⟩ := by
  obtain ⟨cps⟩ := x
  have : cps = #[c] := by
    apply Array.toList_inj.mp
    exact h
  rw [this]
theorem o_inS : Op2 K (fun x y H Q => ∃ (c : Nat) (z : Str), x = .str ⟨#[c]⟩ ∧ y = .str z ∧ Q (.bl (decide (c ∈ z.cps.toList))) H) (gInS false) := ⟨fun sa N H x y a b d Q ra rb e nt k => by
  unfold gInS at e
  split at e
  · split at e
    · rename_i c hc
      cases ra
      cases rb
      cases e
      exact ⟨c, _, by rw [one_sign hc], rfl, k _ _ (Same.refl _) (.bl _)⟩
    · cases e
  · cases e⟩
theorem o_notInS : Op2 K (fun x y H Q => ∃ (c : Nat) (z : Str), x = .str ⟨#[c]⟩ ∧ y = .str z ∧ Q (.bl (!decide (c ∈ z.cps.toList))) H) (gInS true) := ⟨fun sa N H x y a b d Q ra rb e nt k => by
  unfold gInS at e
  split at e
  · split at e
    · rename_i c hc
      cases ra
      cases rb
      cases e
      exact ⟨c, _, by rw [one_sign hc], rfl, k _ _ (Same.refl _) (.bl _)⟩
    · cases e
  · cases e⟩
/-- text * n -/
def mulS (x : Str) (n : Nat) : Str := ⟨(List.replicate n x.cps.toList).flatten.toArray⟩
end
end DL

namespace DL
open PySem PySem.Spec PyProof.Rows L2 LamX
section
variable {X : Cx} {W : Wt} {K : PySem.W.Frag} {M : Fm} {al : Nat → Option Addr} {σ : L2.St} {H : Hp} {δ : Sls}
variable {a b e c : Expr} {es : List Expr} {fa fb fc : EvE} {ft fu : EvT} {fs : EvA} {pos : Pos}
/-! ### text * n -/
theorem foldl_app (acc xs : Array Nat) : ∀ n : Nat, ((List.replicate n xs).foldl (· ++ ·) acc).toList = acc.toList ++ (List.replicate n xs.toList).flatten
  | 0 => by simp
  | n + 1 => by
    rw [List.replicate_succ, List.foldl_cons, foldl_app (acc ++ xs) xs n, List.replicate_succ, List.flatten_cons]
    simp
theorem mulS_eq (x : Str) (n : Nat) : (⟨(List.replicate n x.cps).foldl (· ++ ·) #[]⟩ : Str) = mulS x n := by
  unfold mulS
  have h := foldl_app #[] x.cps n
  congr 1
  apply Array.toList_inj.mp
  rw [h]
  simp
theorem mulS_length (x : Str) (n : Nat) : (mulS x n).length = n * x.length := by
  show ((List.replicate n x.cps.toList).flatten.toArray).size = _
  rw [List.size_toArray, List.length_flatten]
  simp [Str.length]
def gMulS : D → D → Option D
  | .str x, .int n => if 0 ≤ n ∧ n < 2 ^ 24 ∧ x.length * n.toNat ≤ sizeLine then some (.str (mulS x n.toNat)) else none
  | _, _ => none
theorem op_mulS : OpR X (binaryOp .Mult) (fun x y H Q => ∃ (z : Str) (n : Int), x = .str z ∧ y = .int n ∧ 0 ≤ n ∧ n < 2 ^ 24 ∧ z.length * n.toNat ≤ sizeLine ∧ Q (.str (mulS z n.toNat)) H) := by
  intro pins s σ H x y v u Q I rx ry h
  obtain ⟨z, n, rfl, rfl, h0, h1, hl, q⟩ := h
  obtain ⟨t, rfl⟩ := rx
  obtain ⟨t', rfl⟩ := ry
  have h2 : ¬ n < -(2 ^ 63 : Int) := by omega
  have h3 : ¬ n ≥ 2 ^ 63 := by omega
  refine P.mul_str (by rw [decide_eq_false h2, decide_eq_false h3]; rfl) (fun hn _ => ?_) (fun hn _ => ?_) ?_
  · have : (z.length : Int) * n ≤ sizeLine := by
      have e : ((z.length * n.toNat : Nat) : Int) ≤ (sizeLine : Nat) := Int.ofNat_le.mpr hl
      rw [Int.natCast_mul, Int.toNat_of_nonneg h0] at e
      exact e
    have e2 : (sizeLine : Int) = 16777216 := by
      have : sizeLine = 16777216 := by decide
      rw [this]; rfl
    have h4 : (z.length : Int) ≤ (2 ^ 63 - 1) / n := by
      refine (Int.le_ediv_iff_mul_le (by omega)).mpr ?_
      omega
    omega
  · unfold Builtin.Str.tooLong
    exact decide_eq_false (by omega)
  · by_cases hn : n < 1
    · rw [if_pos hn]
      have e : n = 0 := by omega
      subst e
      have e2 : mulS z (0 : Int).toNat = Str.empty := rfl
      rw [e2] at q
      exact ⟨by decide, .str Str.empty, H, I.tok _, ⟨_, rfl⟩, q⟩
    · rw [if_neg hn]
      by_cases hc : (n == 1 || z.length == 0) = true
      · rw [if_pos hc]
        have e : mulS z n.toNat = z := by
          rcases Bool.or_eq_true_iff.mp hc with h | h
          · have : n = 1 := by simpa using h
            subst this
            obtain ⟨cps⟩ := z
            simp [mulS]
          · have : z.cps.size = 0 := by simpa [Str.length] using h
            obtain ⟨cps⟩ := z
            have : cps = #[] := Array.eq_empty_of_size_eq_zero this
            subst this
            simp [mulS]
        rw [e] at q
        exact ⟨.str z, H, I, ⟨t, rfl⟩, q⟩
      · rw [if_neg hc, mulS_eq]
        exact ⟨by rw [mulS_length, Nat.mul_comm]; exact hl, .str _, H, I.tok _, ⟨_, rfl⟩, q⟩
theorem o_mulS : Op2 K (fun x y H Q => ∃ (z : Str) (n : Int), x = .str z ∧ y = .int n ∧ 0 ≤ n ∧ n < 2 ^ 24 ∧ z.length * n.toNat ≤ sizeLine ∧ Q (.str (mulS z n.toNat)) H) gMulS := ⟨fun sa N H x y a b d Q ra rb e nt k => by
  unfold gMulS at e
  split at e
  · cases ra
    cases rb
    split at e
    · rename_i hc
      cases e
      exact ⟨_, _, rfl, rfl, hc.1, hc.2.1, hc.2.2, k _ _ (Same.refl _) (.str _)⟩
    · cases e
  · cases e⟩
/-! ### methods of texts -/
def gSplit : D → List D → Option D
  | .str a, [.str b] => if (b.length == 0) = false ∧ a.length + 2 ≤ sizeLine then some (.lst ((Txt.split a b).map .str)) else none
  | _, _ => none
theorem strs_reps {sa : Addr} {N : Addr → Prop} : ∀ ys : List Str, Reps K sa N H (ys.map V.str) (ys.map D.str)
  | [] => .nil
  | y :: r => .cons (.str y) (strs_reps r)
theorem o_split (sa : Addr) (N : Addr → Prop) (H : Hp) (x : V) (a : D) (xs : List V) (as : List D) (d : D) (Q : VK) (r1 : Rep K sa N H x a) (r2 : Reps K sa N H xs as) (e : gSplit a as = some d) (nt : ∀ b, N b → Tr H b) (k : ∀ v H', Same H H' → Rep K sa N H' v d → Q v H') :
    ∃ a b, x = .str a ∧ xs = [.str b] ∧ (b.length == 0) = false ∧ a.length + 2 ≤ sizeLine ∧ rNewStrs (Txt.split a b) H Q := by
  unfold gSplit at e
  split at e
  · rename_i a b
    split at e
    · rename_i hc
      cases e
      cases r1
      obtain ⟨v, rfl, r3⟩ := r2.one
      cases r3
      refine ⟨_, _, rfl, rfl, hc.1, hc.2, fun p hp => k _ _ (same_upd hp) (new_ok nt hp ?_ (strs_reps _))⟩
      rw [List.length_map]
      exact Nat.le_trans (PyProof.Rows.split_le a b) hc.2
    · cases e
  · cases e
def strsOf : List D → Option (List Str)
  | [] => some []
  | .str b :: ds => (strsOf ds).map (b :: ·)
  | _ => none
theorem strs_of_reps {sa : Addr} {N : Addr → Prop} {H : Hp} : ∀ {xs : List V} {ds : List D} {bs : List Str}, Reps K sa N H xs ds → strsOf ds = some bs → xs = bs.map V.str
  | _, _, _, .nil, e => by cases e; rfl
  | _, _, _, .cons (d := .str b) (ds := ds) r rs, e => by
    unfold strsOf at e
    cases q : strsOf ds with
    | none => rw [q] at e; cases e
    | some bs =>
      rw [q] at e
      cases e
      cases r
      rw [strs_of_reps rs q]
      rfl
  | _, _, _, .cons (d := .non) r rs, e => by cases e
  | _, _, _, .cons (d := .bl _) r rs, e => by cases e
  | _, _, _, .cons (d := .int _) r rs, e => by cases e
  | _, _, _, .cons (d := .tup _) r rs, e => by cases e
  | _, _, _, .cons (d := .lst _) r rs, e => by cases e
  | _, _, _, .cons (d := .scr _) r rs, e => by cases e
  | _, _, _, .cons (d := .st) r rs, e => by cases e
  | _, _, _, .cons (d := .exc _ _) r rs, e => by cases e
  | _, _, _, .cons (d := .ty _) r rs, e => by cases e
  | _, _, _, .cons (d := .glo _) r rs, e => by cases e
  | _, _, _, .cons (d := .map _ _) r rs, e => by cases e
def gJoin : D → List D → Option D
  | .str a, [.lst ds] => (strsOf ds).bind fun ys => if (ys.map (·.length)).sum + ys.length * a.length ≤ 16777216 then some (.str (Txt.join a ys)) else none
  | .str a, [.tup ds] => (strsOf ds).bind fun ys => if (ys.map (·.length)).sum + ys.length * a.length ≤ 16777216 then some (.str (Txt.join a ys)) else none
  | _, _ => none
theorem o_join (sa : Addr) (N : Addr → Prop) (H : Hp) (x : V) (a : D) (xs : List V) (as : List D) (d : D) (Q : VK) (r1 : Rep K sa N H x a) (r2 : Reps K sa N H xs as) (e : gJoin a as = some d) (nt : ∀ b, N b → Tr H b) (k : ∀ v H', Same H H' → Rep K sa N H' v d → Q v H') :
    ∃ a p, ∃ ys : List Str, x = .str a ∧ xs = [.ref p] ∧ (SqL K H p (ys.map V.str) ∨ SqT K H p (ys.map V.str)) ∧ (ys.map (·.length)).sum + ys.length * a.length ≤ 16777216 ∧ Q (.str (Txt.join a ys)) H := by
  unfold gJoin at e
  split at e
  · rename_i a ds
    cases q : strsOf ds with
    | none => rw [q] at e; cases e
    | some ys =>
      rw [q] at e
      simp only [Option.bind_some] at e
      split at e
      · rename_i hc
        cases e
        cases r1
        obtain ⟨v, rfl, r3⟩ := r2.one
        cases r3 with
        | lst h n l r =>
          rw [strs_of_reps r q] at h
          exact ⟨_, _, ys, rfl, rfl, .inl (SqL.of h), hc, k _ _ (Same.refl _) (.str _)⟩
      · cases e
  · rename_i a ds
    cases q : strsOf ds with
    | none => rw [q] at e; cases e
    | some ys =>
      rw [q] at e
      simp only [Option.bind_some] at e
      split at e
      · rename_i hc
        cases e
        cases r1
        obtain ⟨v, rfl, r3⟩ := r2.one
        cases r3 with
        | tup h l r =>
          rw [strs_of_reps r q] at h
          exact ⟨_, _, ys, rfl, rfl, .inr h, hc, k _ _ (Same.refl _) (.str _)⟩
      · cases e
  · cases e
/-- text.index(sign), where it is there -/
def gIndex : D → List D → Option D
  | .str a, [.str b] => match Builtin.Str.occurrences a b 0 a.length 1 with
    | k :: _ => some (.int (k : Nat))
    | [] => none
  | _, _ => none
theorem mt_index0 : MtR X "str.index" (fun x xs H Q => ∃ a b k r, x = .str a ∧ xs = [.str b] ∧ Builtin.Str.occurrences a b 0 a.length 1 = k :: r ∧ Q (.int (k : Nat)) H) := by
  intro pins s σ H x xs v us Q I rx rs h
  obtain ⟨a, b, k, r, rfl, rfl, hk, q⟩ := h
  obtain ⟨t, rfl⟩ := rx
  cases rs with
  | cons r1 rs =>
    cases rs
    obtain ⟨u, rfl⟩ := r1
    exact PySem.SC.index hk ⟨.int (k : Nat), H, I.tok _, ⟨_, rfl⟩, q⟩
theorem o_index (sa : Addr) (N : Addr → Prop) (H : Hp) (x : V) (a : D) (xs : List V) (as : List D) (d : D) (Q : VK) (r1 : Rep K sa N H x a) (r2 : Reps K sa N H xs as) (e : gIndex a as = some d) (nt : ∀ b, N b → Tr H b) (k : ∀ v H', Same H H' → Rep K sa N H' v d → Q v H') :
    ∃ a b k r, x = .str a ∧ xs = [.str b] ∧ Builtin.Str.occurrences a b 0 a.length 1 = k :: r ∧ Q (.int (k : Nat)) H := by
  unfold gIndex at e
  split at e
  · rename_i a b
    cases q : Builtin.Str.occurrences a b 0 a.length 1 with
    | nil => rw [q] at e; cases e
    | cons k' r' =>
      rw [q] at e
      cases e
      cases r1
      obtain ⟨v, rfl, r3⟩ := r2.one
      cases r3
      exact ⟨_, _, _, _, rfl, rfl, q, k _ _ (Same.refl _) (.int _)⟩
  · cases e
/-! ### isinstance -/
inductive Cn where
  | ty (n : String)
  | own (x : Str)
deriving DecidableEq
def Cn.v (K : PySem.W.Frag) : Cn → Value
  | .ty n => .type n
  | .own x => .ref (He.ga K x)
def tyD : D → Option Cn
  | .non => some (.ty "NoneType")
  | .bl _ => some (.ty "bool")
  | .int _ => some (.ty "int")
  | .str _ => some (.ty "str")
  | .tup _ => some (.ty "tuple")
  | .lst _ => some (.ty "list")
  | .scr _ => some (.ty "list")
  | .exc c [] => some (.own c)
  | .map _ _ => some (.ty "dict")
  | _ => none
def clD : D → Option Cn
  | .ty n => some (.ty n)
  | .glo x => some (.own x)
  | _ => none
def gIsc (kb : List (Cn × Cn × Bool)) : List D → Option D
  | [d, c] => match tyD d, clD c with
    | some t, some u => ((kb.find? fun p => decide (p.1 = t ∧ p.2.1 = u)).map (·.2.2)).map .bl
    | _, _ => none
  | _ => none
/-- what the head is to tell of the classes -/
def kbOk (K : PySem.W.Frag) (kb : List (Cn × Cn × Bool)) : Bool := kb.all fun p => decide (PySem.W.kitOne K (p.1.v K) (p.2.1.v K) = some p.2.2)
def excOk (K : PySem.W.Frag) (cs : List Str) : Bool := cs.all fun c =>
  decide (PySem.W.findIn K (.ref (He.ga K c)) "__getattribute__" = some (some (.builtin "BaseException.__getattribute__"))) && decide (PySem.W.findIn K (.ref (He.ga K c)) "__getattr__" = some none) && decide (PySem.W.subIn K (.ref (He.ga K c)) (.type "BaseException") = some true) &&
  PySem.W.hasDictIn K (He.ga K c) && decide (PySem.W.findIn K (.ref (He.ga K c)) "__class__" = some (some (.builtin "object.__class__"))) && decide (PySem.W.specialIn K (.builtin "object.__class__") "__get__" = some (some (.builtin "getset_descriptor.__get__"))) &&
  decide (PySem.W.takesIn K (.builtin "object.__class__") = some true) && decide (PySem.W.mroIn K (He.ga K c) (.type "object") = some true)
theorem excOk_of {cs : List Str} {c : Str} (h : excOk K cs = true) (hc : c ∈ cs) : ExcC K (He.ga K c) := by
  have q := List.all_eq_true.mp h c hc
  simp only [Bool.and_eq_true, decide_eq_true_eq] at q
  obtain ⟨⟨⟨⟨⟨⟨⟨h1, h2⟩, h3⟩, h4⟩, h5⟩, h6⟩, h7⟩, h8⟩ := q
  exact ⟨h1, h2, h3, h4, h5, h6, h7, h8⟩
/-- isinstance of an exception that is held -/
def rIsX (K : PySem.W.Frag) : List V → Hp → VK → Prop := fun xs H Q => ∃ (a D : Addr) (c : V) (u : Value) (b : Bool), xs = [.ref a, c] ∧ ClsV c u ∧ H a = some (ExV (.ref D) none a) ∧ ExcC K D ∧ PySem.W.kitOne K (.ref D) u = some b ∧ Q (.bl b) H
theorem call_isx : CallR X (.builtin "isinstance") (rIsX X.K) := by
  intro pins s σ H xs us Q I r h
  obtain ⟨a, D, c, u, b, rfl, k, hx, C, e, q⟩ := h
  obtain ⟨u1, u2, rfl, r1, r2⟩ := vals2 r
  have e2 := k.eq r2
  subst e2
  cases (show u1 = Value.ref a from r1)
  obtain ⟨oe, vs, h1, h2, h3⟩ := (show ∃ (oe : Obj) (vs : Array Value), s.heap.get? a = some oe ∧ Zc (.ref D) none oe ∧ oe.data = .fields vs from (show ObjOk X.prog X.w H s.heap a (ExV (.ref D) none a) from I.hok a _ hx).1)
  have J : PySem.W.InstAt s.heap a oe D none := by
    obtain ⟨oc, od, oda, osl⟩ := oe
    obtain ⟨g1, g2⟩ := h2
    dsimp only at g1 g2 h3
    subst g1 g2 h3
    exact ⟨h1, rfl, rfl, trivial⟩
  exact PySem.W.kia_one (PySem.W.handS_kitx_exc C.hg C.hk C.hs C.hd C.ha C.hn C.ht C.hm) I.kIn J e (fun z => nomatch z) fun tk => ⟨.bl b, H, I.kept (t' := tk) fun _ _ z => z, rfl, q⟩
theorem clD_cls {sa : Addr} {N : Addr → Prop} {v : V} {d : D} {t : Cn} (r : Rep K sa N H v d) (h : clD d = some t) : ClsV v (t.v K) := by
  unfold clD at h
  split at h
  · cases h
    cases r
    exact .ty _
  · cases h
    cases r
    exact .own _
  · cases h
theorem o_isc {kb : List (Cn × Cn × Bool)} {cs : List Str} (hk : kbOk K kb = true) (hc : excOk K cs = true) (hcs : ∀ p ∈ kb, ∀ c, p.1 = .own c → c ∈ cs) : OpN K (fun xs H Q => rIsi K xs H Q ∨ rIsX K xs H Q) (gIsc kb) := ⟨fun sa N H xs as d Q r e nt k => by
  unfold gIsc at e
  split at e
  · rename_i d c
    obtain ⟨v, w, rfl, r1, r2⟩ := r.two
    split at e
    · rename_i t u ht hu
      cases q : kb.find? fun p => decide (p.1 = t ∧ p.2.1 = u) with
      | none => rw [q] at e; cases e
      | some p =>
        rw [q] at e
        cases e
        have hp := List.find?_some q
        have hm := List.mem_of_find?_eq_some q
        simp only [decide_eq_true_eq] at hp
        obtain ⟨e1, e2⟩ := hp
        have hkit := of_decide_eq_true (List.all_eq_true.mp hk p hm)
        rw [e1, e2] at hkit
        have hcl := clD_cls r2 hu
        have key : ∀ tv : Value, TyX K H v tv → tv = t.v K → (rIsi K [v, w] H Q ∨ rIsX K [v, w] H Q) := fun tv ty et => by
          subst et
          exact .inl ⟨v, w, _, _, _, rfl, hcl, ty, hkit, k _ _ (Same.refl _) (.bl _)⟩
        cases r1 with
        | non => cases ht; exact key _ (.base .non) rfl
        | bl b => cases ht; exact key _ (.base (.bl b)) rfl
        | int i => cases ht; exact key _ (.base (.int i)) rfl
        | str x => cases ht; exact key _ (.base (.str x)) rfl
        | tup h l r =>
          cases ht
          rcases h with (h | ⟨o, h⟩) | ⟨o, its, n, h1, h2, _⟩
          · exact key _ (.base (.tup h)) rfl
          · exact key _ (.fTuple h) rfl
          · exact key _ (.kTuple h1 h2) rfl
        | lst h n l r => cases ht; exact key _ (.base (.lst h)) rfl
        | scr h l =>
          cases ht
          rcases h with ⟨o, h⟩ | ⟨o, its, n, h1, h2, _⟩
          · exact key _ (.base (.frz h)) rfl
          · exact key _ (.kList h1 h2) rfl
        | scrL h n l => cases ht; exact key _ (.base (.lst h)) rfl
        | map h n e2 l r => cases ht; exact key _ (.base (.dK h)) rfl
        | st => cases ht
        | ty n => cases ht
        | glo x => cases ht
        | exc0 h =>
          cases ht
          exact .inr ⟨_, _, _, _, _, rfl, hcl, h, excOk_of hc (hcs p hm _ e1), hkit, k _ _ (Same.refl _) (.bl _)⟩
        | exc1 _ _ _ => cases ht
    · cases e
  · cases e⟩
theorem c_isc : CallR X (.builtin "isinstance") (fun xs H Q => rIsi X.K xs H Q ∨ rIsX X.K xs H Q) := call_isi.or call_isx
end
end DL

namespace DL
open PySem PySem.Spec PyProof.Rows L2 LamX
/-! ### what a caller knows of a def -/
structure Cal (Pr : Program) (w : World) (K : PySem.W.Frag) (mg : Str → Option Value) (base : Heap) (x : Str) (k : Nat) (ps : List Str) (P : PP) (fn : List D → Om → Rs D) : Prop where
  ex : ∃ fd, FnOk Pr w K mg base (L2.CX Pr w) k (He.ga K x) fd ps (spD K P ps.length fn) ∧ Binds K fd ps [] ∧ ∃ oc od osl, K.lookup (He.ga K x) = some ⟨oc, od, .func fd, osl⟩
  hm : mg x = some (.ref (He.ga K x))
  hk : PySem.W.keepIn K (.ref (He.ga K x)) = true
structure CalK (Pr : Program) (w : World) (K : PySem.W.Frag) (mg : Str → Option Value) (base : Heap) (x : Str) (k : Nat) (ps : List Str) (P : PP) (fn : List D → Om → Rs D) : Prop extends Cal Pr w K mg base x k ps P fn where
  kw : ∃ fd, FnOk Pr w K mg base (L2.CX Pr w) k (He.ga K x) fd ps (spD K P ps.length fn) ∧ KBn K fd ps 0 ps (fun _ ws => ws) (fun _ zs => zs)
theorem spD.mono {K : PySem.W.Frag} {P : PP} {n : Nat} {fn fn' : List D → Om → Rs D} (h : ∀ ds ω, fn' ds ω ≠ .bad → fn ds ω = fn' ds ω) {vs : List V} {H : Hp} {Q : VK} {E : XK} (s : spD K P n fn' vs H Q E) : spD K P n fn vs H Q E := by
  obtain ⟨hl, M, ds, ω, e, pp, zn, gm, gG, nt, r, q⟩ := s
  refine ⟨hl, M, ds, ω, e, pp, zn, gm, gG, nt, r, ?_⟩
  rw [h ds ω (fun z => by rw [z] at q; exact q)]
  exact q
theorem fnOk_imp {P : Program} {w : World} {K : PySem.W.Frag} {mg : Str → Option Value} {base : Heap} {CX : CXT} {k : Nat} {f : Addr} {fd : FuncData} {ps : List Str} {sp sp' : Sp} (F : FnOk P w K mg base CX k f fd ps sp) (h : ∀ vs H Q E, sp' vs H Q E → sp vs H Q E) : FnOk P w K mg base CX k f fd ps sp' :=
  ⟨fun vs H Q E s => F.len vs H Q E (h vs H Q E s), fun A outer s H args us vs Q E hr e0 hb r hsp => F.run A outer s H args us vs Q E hr e0 hb r (h vs H Q E hsp)⟩
section
variable {Pr : Program} {w : World} {K : PySem.W.Frag} {mg : Str → Option Value} {base : Heap} {x : Str} {k : Nat} {ps : List Str} {P : PP} {fn fn' : List D → Om → Rs D}
theorem Cal.as (c : Cal Pr w K mg base x k ps P fn) (h : ∀ ds ω, fn' ds ω ≠ .bad → fn ds ω = fn' ds ω) : Cal Pr w K mg base x k ps P fn' := by
  obtain ⟨fd, F, B, L⟩ := c.ex
  exact ⟨⟨fd, fnOk_imp F fun vs H Q E s => s.mono h, B, L⟩, c.hm, c.hk⟩
theorem CalK.asK (c : CalK Pr w K mg base x k ps P fn) (h : ∀ ds ω, fn' ds ω ≠ .bad → fn ds ω = fn' ds ω) : CalK Pr w K mg base x k ps P fn' := by
  obtain ⟨fd, F, B⟩ := c.kw
  exact ⟨c.toCal.as h, ⟨fd, fnOk_imp F fun vs H Q E s => s.mono h, B⟩⟩
/-- a def of the text, by its body -/
theorem cal_of {st : Stmt} {qual : Str} {N : List Str} {g : EvS} {fd : FuncData} (F : FunD K x qual (defArgs st) (defBody st) (defScope st) [] [] (He.ga K x) fd) (hm : mg x = some (.ref (He.ga K x))) (sc : FnScope N ps (defScope st)) (hN : N.length = ps.length + (N.length - ps.length))
    (hb : ∀ (cdv : Value), cdv = .ref (He.codeOf K (x, none)) → ∀ (A : Around) (outer : List Env) (s : Shared) (H : Hp) (E : XK), Room k (A.deeper (envOfC qual (defScope st) s.heap.objs.size (He.ga K x) cdv)) → Takes (cxOf (L2.CX Pr w) Pr w K mg base N qual (defScope st) (He.ga K x) cdv A outer s H E) (fun cls d _ H => E cls d H) →
      PSsd (cxOf (L2.CX Pr w) Pr w K mg base N qual (defScope st) (He.ga K x) cdv A outer s H E) ⟨E, P⟩ (defBody st) g)
    (bd : ∀ (kV doc pm : Value) (an : Option Addr) (cdv ct : Value) (us : List Value), us.length = ps.length → bindArgs (PySem.W.fnOf x qual (defArgs st) (defBody st) (defScope st) .none kV doc pm an cdv ct) ⟨us, []⟩ = pure (ps.zip us)) :
    Cal Pr w K mg base x (k + 1) ps P (runB N.length g) := by
  have hB := F.bindsN bd
  have hkp := F.kp
  obtain ⟨oc, od, dV, kV, doc, pm, an, cdv, ct, osl, rfl, lk, hcd, _, _⟩ := F.ex
  refine ⟨⟨_, ?_, hB, _, _, _, lk⟩, hm, hkp⟩
  obtain ⟨c, ec⟩ := He.codeIn_ref hcd
  have e2 : cdv = .ref (He.codeOf K (x, none)) := by
    have := He.codeOf_eq (p := (x, none)) lk ec
    rw [this, ec]
  refine fn_of lk hcd sc (fun vs H Q E h => h.1) fun A outer s H vs Q E hr h => ?_
  obtain ⟨t, p1, q1⟩ := (hb cdv e2 A outer s H E hr (takes_of rfl rfl rfl rfl)).ex
  obtain ⟨hl, M, ds, ω, rfl, pp, zn, gm, gG, nt, r, h⟩ := h
  refine ⟨t, p1, q1 M (fun _ => none) _ _ _ ω _ (DSt.start pp zn gm gG nt r hl hN) ?_⟩
  unfold runB at h
  cases e : g (ds.map .val ++ List.replicate (N.length - ds.length) .emp) ω with
  | ok fl ω' =>
    rw [e] at h
    cases fl with
    | nx δ => exact fun al' σ' H' S f _ => h .non H' S.fr S.g .non
    | rt d => exact fun v H' f g r => h v H' f g r
    | bk δ => exact h.elim
    | ct δ => exact h.elim
  | err z ω' => rw [e] at h; exact h
  | bad => rw [e] at h; exact h.elim
/-- .. that is called by keywords -/
theorem calk_of {st : Stmt} {qual : Str} {fd : FuncData} (c : Cal Pr w K mg base x k ps P fn) (F : FunD K x qual (defArgs st) (defBody st) (defScope st) [] [] (He.ga K x) fd)
    (bd : ∀ (kV doc pm : Value) (an : Option Addr) (cdv ct : Value) (us ws : List Value), us.length = 0 → ws.length = ps.length → bindArgs (PySem.W.fnOf x qual (defArgs st) (defBody st) (defScope st) .none kV doc pm an cdv ct) ⟨us, ps.zip ws⟩ = pure (ps.zip ws)) : CalK Pr w K mg base x k ps P fn := by
  refine ⟨c, ?_⟩
  obtain ⟨fd', F', B, oc', od', osl', lk'⟩ := c.ex
  obtain ⟨oc, od, dV, kV, doc, pm, an, cdv, ct, osl, rfl, lk, hcd, hD, _⟩ := F.ex
  rw [lk] at lk'
  cases lk'
  rcases hD with ⟨_, rfl⟩ | ⟨e, _⟩
  · exact ⟨_, F', fun s us ws _ l1 l2 => .of_eq (bd kV doc pm an cdv ct us ws l1 l2), fun _ r => r⟩
  · exact absurd rfl e
end
section
variable {X : Cx} {W : Wt} {a b e c : Expr} {es : List Expr} {fs : EvA} {pos : Pos}
variable {x : Str} {k : Nat} {ps : List Str} {fn : List D → Om → Rs D}
theorem pd_cal {p : Pos} (C : Cal X.prog X.w X.K X.mg X.base x k ps W.P fn) (hr : Room k X.A) (tk : Takes X (fun cls d _ H => W.w cls d H)) (hl : LenA ps.length fs) (ha : PAd X W (e :: es) fs) (hg : Gl X x := by rfl) (hdb : (x == ("__debug__" : Str)) = false := by decide) (he : starEach (e :: es) X.env = (false, eval e X.env) :: starEach es X.env := by rfl) (hpl : (backTo pos (starEach es X.env)).any (·.1) = false := by rfl) :
    PEd X W (.Call (.Name x p) (e :: es) [] pos) (eCall fn fs) := by
  obtain ⟨fd, F, B, _⟩ := C.ex
  exact pd_call F hr C.hm C.hk B tk (fun _ _ _ h => h) hl ha hg hdb he hpl
theorem pd_cal0 {p : Pos} (C : Cal X.prog X.w X.K X.mg X.base x k [] W.P fn) (hr : Room k X.A) (tk : Takes X (fun cls d _ H => W.w cls d H)) (hg : Gl X x := by rfl) (hdb : (x == ("__debug__" : Str)) = false := by decide) :
    PEd X W (.Call (.Name x p) [] [] pos) (eCall fn aNil) := by
  obtain ⟨fd, F, B, _⟩ := C.ex
  exact pd_call0 F hr C.hm C.hk B tk (fun _ _ _ h => h) hg hdb
/-- keywords' values -/
structure PKd (X : Cx) (W : Wt) (kws : List Keyword) (f : EvA) : Prop where
  ex : ∃ t, PK X kws t ∧ ∀ M al σ H δ ω Q, DSt X.K W.P M al σ H δ ω → PostR X.K M al σ H δ (relA X.K M al) (f δ ω) Q W → t σ H Q
variable {fa : EvE} {kws : List Keyword}
theorem kd_nil : PKd X W [] aNil := ⟨_, pk_nil, fun M al σ H δ ω Q S h => h [] H S (Fr.refl H) .nil⟩
theorem kd_cons {nm : Option Str} {kpos : Pos} (ha : PEd X W e fa) (hr : PKd X W kws fs) : PKd X W (⟨nm, e, kpos⟩ :: kws) (aCons fa fs) := by
  obtain ⟨ta, p1, q1⟩ := ha.ex
  obtain ⟨tb, p2, q2⟩ := hr.ex
  refine ⟨_, pk_cons p1 p2, fun M al σ H δ ω Q S h => ?_⟩
  refine q1 M al σ H δ ω _ S (post_mono (fun x H1 h1 => ?_) (post_bind (rel := relE X.K M al) h))
  obtain ⟨d1, ω1, _, S1, f1, r1, h1⟩ := h1
  refine q2 M al σ H1 δ ω1 _ S1 (post_mono (fun y H2 h2 => ?_) (post_bind (rel := relA X.K M al) (post_from f1 h1)))
  obtain ⟨d2, ω2, _, S2, f2, r2, h2⟩ := h2
  exact h2 (x :: y) H2 S2 f2 (.cons (r1.mono f2 S1.zna) r2)
/-- f(k = v, ..), all of its parameters in their order -/
theorem pd_calk {p : Pos} (C : CalK X.prog X.w X.K X.mg X.base x k ps W.P fn) (hr : Room k X.A) (tk : Takes X (fun cls d _ H => W.w cls d H)) (hl : LenA ps.length fs) (hkw : PKd X W kws fs) (hg : Gl X x := by rfl)
    (hall : (backToKw pos (keywordEach kws X.env)).all (·.1.isSome) = true := by rfl) (hks : (backToKw pos (keywordEach kws X.env)).filterMap (·.1) = ps := by rfl) (hdb : (x == ("__debug__" : Str)) = false := by decide)
    (hpl : ((backTo pos (starEach [] X.env)).any (·.1) || (backToKw pos (keywordEach kws X.env)).any (·.1.isNone)) = false := by rfl) :
    PEd X W (.Call (.Name x p) [] kws pos) (eCall fn fs) := by
  obtain ⟨fd, F, B⟩ := C.kw
  obtain ⟨t, p1, q1⟩ := hkw.ex
  refine ⟨fun σ H Q => t σ H fun zs H2 => zs.length = ps.length ∧ spD X.K W.P ps.length fn zs H2 Q W.w, ⟨fun pins s σ H Q I h => ?_⟩, fun M al σ H δ ω Q S h => ?_⟩
  · refine wpAny_Call_Name_kw (ld_glob I hg C.hm ?_ hdb)
    refine PySem.W.callWith_KW0 (h₀ := X.base) I.ok.mod.kin C.hk hall ?_ hpl
    refine thn (p1.run pos pins s σ H _ I h) fun ws s2 ⟨zs, H2, I2, rz, l2, q2⟩ => ⟨I2.kIn, ?_⟩
    rw [hks]
    exact run_fnN (us := []) (vs := []) F hr B (passes_call tk fun _ _ _ _ h => h) I2 .nil rz rfl l2 q2
  · refine q1 M al σ H δ ω _ S (post_mono (fun x H1 h1 => ?_) (post_bind (rel := relA X.K M al) h))
    obtain ⟨d1, ω1, e1, S1, f1, r1, h1⟩ := h1
    have hn := r1.len.trans (hl _ _ _ _ e1)
    exact ⟨hn, sp_ok (fun _ _ _ h => h) S1 r1 hn (post_from f1 h1)⟩
end
end DL

namespace DL
open PySem PySem.Spec PyProof.Rows L2 LamX
section
variable {X : Cx} {W : Wt} {P : PP} {K : PySem.W.Frag} {M : Fm} {al : Nat → Option Addr} {σ : L2.St} {H : Hp} {δ : Sls} {ω : Om}
variable {a b e c : Expr} {es : List Expr} {fa fb fc : EvE} {ft fu : EvT} {fs : EvA} {pos : Pos}
/-- a, b = x, y -/
def sPar2 (i j : Nat) (fs : EvA) : EvS := fun δ ω => (fs δ ω).bind fun ds ω1 => match ds with
  | [d1, d2] => .ok (.nx ((δ.set i (.val d1)).set j (.val d2))) ω1
  | _ => .bad
theorem sd_par {i j : Nat} {x y : Str} {px py pt : Pos} {kt k2 : Nat} {pt2 : Pos} (hc : X.calm = true) (hN : X.N.Nodup) (hi : X.N[i]? = some x) (hj : X.N[j]? = some y) (hij : i ≠ j)
    (hx : X.env.scope.names.lookup x = some .local) (hy : X.env.scope.names.lookup y = some .local) (ha : PAd X W [a, b] fs)
    (hw : swappedStores [.Tuple [.Name x px, .Name y py] kt pt] (.Tuple [a, b] k2 pt2) X.env = pure (some [x, y]) := by rfl)
    (hs : swapsWithSole [.Tuple [.Name x px, .Name y py] kt pt] (.Tuple [a, b] k2 pt2) pos.line X.env = pure false := by rfl) :
    PSd X W (.Assign [.Tuple [.Name x px, .Name y py] kt pt] (.Tuple [a, b] k2 pt2) pos) (sPar2 i j fs) := by
  obtain ⟨t, p1, q1⟩ := ha.ex
  refine ⟨_, ps_par hc hN hi hj hij hx hy p1 hw hs, fun M al σ H δ ω DD S h => ?_⟩
  refine q1 M al σ H δ ω _ S (post_mono (fun xs H1 h1 => ?_) (posts_bind (rel := relA X.K M al) S.fr h))
  obtain ⟨ds, ω1, e1, S1, f1, r1, h1⟩ := h1
  split at h1
  · rename_i d1 d2
    obtain ⟨v, w, rfl, r2, r3⟩ := r1.two
    refine ⟨v, w, rfl, ?_⟩
    have S2 := S1.set (i := i) r2
    have hle : ∀ b, NA M.N (fun j => if j = i then none else al j) b → Tr H1 b → NA M.N al b := fun b hb _ => by
      rcases hb with hb | ⟨k, hb⟩
      · exact .inl hb
      · by_cases e : k = i
        · simp only [e, if_pos] at hb; cases hb
        · simp only [if_neg e] at hb; exact .inr ⟨k, hb⟩
    have S3 := S2.set (i := j) (r3.less hle)
    exact h1 _ _ H1 S3 f1.s (AlExt.drop.trans (Z := M.Z) (Fr.refl _) AlExt.drop)
  · exact h1.elim
/-- (x, y) as a target -/
def gdTup2 (i j : Nat) : EvG := fun d δ _ => match d with
  | .tup [d1, d2] => some ((δ.set i (.val d1)).set j (.val d2))
  | _ => none
theorem gd_tup2 {i j : Nat} {x y : Str} {px py : Pos} {kt : Nat} (hc : X.calm = true) (hN : X.N.Nodup) (hi : X.N[i]? = some x) (hj : X.N[j]? = some y) (hx : Loc X.env.scope x) (hy : Loc X.env.scope y) (hf : X.fn x = true ∨ X.env.scope.names.lookup x = some .local := by first | exact .inl rfl | exact .inr rfl | assumption) (hf2 : X.fn y = true ∨ X.env.scope.names.lookup y = some .local := by first | exact .inl rfl | exact .inr rfl | assumption)
    (hs : (assignEach (.Name x px :: [.Name y py]) X.env).map (·.2) = assign (.Name x px) X.env :: (assignEach [.Name y py] X.env).map (·.2) := by rfl) (hs2 : (assignEach (.Name y py :: []) X.env).map (·.2) = assign (.Name y py) X.env :: (assignEach [] X.env).map (·.2) := by rfl)
    (hn : (assignEach [.Name x px, .Name y py] X.env).length = 2 := by rfl) (hst : (assignEach [.Name x px, .Name y py] X.env).findIdx? (·.1) = none := by rfl) : PGd X P (.Tuple [.Name x px, .Name y py] kt pos) [i, j] (gdTup2 i j) := by
  refine ⟨_, pg_tup hc (pgs_cons (pg_name hN hi hx hf) (pgs_cons (pg_name hN hj hy hf2) pgs_nil hs2) hs) hn hst, fun M al σ H δ ω v d δ' Q S r hg k => ?_⟩
  unfold gdTup2 at hg
  split at hg
  · rename_i d1 d2
    cases hg
    cases r with
    | tup h l r =>
      obtain ⟨v1, v2, rfl, r2, r3⟩ := r.two
      refine ⟨_, [v1, v2], rfl, h, rfl, v1, [v2], rfl, v2, [], rfl, rfl, ?_⟩
      have S2 := S.set (i := i) r2
      have hle : ∀ b, NA M.N (fun j => if j = i then none else al j) b → Tr H b → NA M.N al b := fun b hb _ => by
        rcases hb with hb | ⟨k, hb⟩
        · exact .inl hb
        · by_cases e : k = i
          · simp only [e, if_pos] at hb; cases hb
          · simp only [if_neg e] at hb; exact .inr ⟨k, hb⟩
      have S3 := S2.set (i := j) (r3.less hle)
      have ea : (fun k => if k = j then none else if k = i then none else al k) = alW al [i, j] := by
        funext k
        by_cases e1 : k = j
        · simp [alW, e1]
        · by_cases e2 : k = i
          · simp [alW, e2]
          · simp [alW, e1, e2]
      rw [ea] at S3
      refine k _ S3 (by rw [List.length_set, List.length_set]) fun m hm => ?_
      have h1 : m ≠ i ∧ m ≠ j := by simpa using hm
      rw [List.getElem?_set_ne (Ne.symm h1.2), List.getElem?_set_ne (Ne.symm h1.1)]
  · cases hg
end
end DL

namespace DL
open PySem PySem.Spec PyProof.Rows L2 LamX
section
variable {X : Cx} {W : Wt} {P : PP} {K : PySem.W.Frag} {M : Fm} {al : Nat → Option Addr} {σ : L2.St} {H : Hp} {δ : Sls} {ω : Om}
variable {a b e c : Expr} {es : List Expr} {fa fb fc : EvE} {ft fu : EvT} {fs : EvA} {pos : Pos}
/-! ### whatever is walked -/
def iAnyT (K : PySem.W.Frag) (te : TE) : TI := fun σ H R => te σ H fun x H1 => (∃ a xs, x = .ref a ∧ SqL K H1 a xs ∧ R (Itl K a) H1) ∨ (∃ a xs, x = .ref a ∧ SqT K H1 a xs ∧ R (Itt K a) H1) ∨ ∃ z, x = .str z ∧ R (Its z) H1
theorem pi_any {tg : Expr} {te : TE} (hl : PE X e te) : PI X tg e (iAnyT X.K te) := by
  refine ⟨fun pins s σ H R I h => ?_⟩
  refine thn (hl.run pins s σ H _ I h) fun v s1 ⟨y, H1, I1, r1, q1⟩ => ?_
  rcases q1 with ⟨a, xs, ey, hq, q⟩ | ⟨a, xs, ey, hq, q⟩ | ⟨x, ey, q⟩
  · subst ey
    cases r1
    obtain ⟨its, rv, p, hz⟩ := I1.list hq
    refine wpAny_pyIter_list p.isList ?_
    refine ⟨s1.heap.objs.size, [s1.heap.objs.size], _, _, H1, rfl, I1.kept (t' := s1.toks) fun b o e => Heap.get?_push_of_some _ e, turn_list a _, ⟨_, Heap.get?_push_size _ rfl, rfl, rfl⟩, fun b hb => ?_, q⟩
    obtain rfl : b = s1.heap.objs.size := by simpa using hb
    exact I1.fpOk (Nat.le_refl _) (I1.hok.fresh (Nat.le_refl _))
  · subst ey
    cases r1
    obtain ⟨its, rv, p, hz⟩ := I1.tuple hq
    refine wpAny_pyIter_tuple (show s1.heap.IsTuple a its.toArray from p) ?_
    refine ⟨s1.heap.objs.size, [s1.heap.objs.size], _, _, H1, rfl, I1.kept (t' := s1.toks) fun b o e => Heap.get?_push_of_some _ e, turn_tuple a _, ⟨_, Heap.get?_push_size _ rfl, rfl, rfl⟩, fun b hb => ?_, q⟩
    obtain rfl : b = s1.heap.objs.size := by simpa using hb
    exact I1.fpOk (Nat.le_refl _) (I1.hok.fresh (Nat.le_refl _))
  · subst ey
    obtain ⟨t, rfl⟩ := r1
    cases ha : x.cps.all (· < 128)
    · exact wpAny_pyIter_wide ha (pi_one (tk := s1.toks) I1 _ (turn_str _ x t "str_iterator" (.inr rfl)) ⟨_, Heap.get?_push_size _ rfl, rfl, rfl⟩ q)
    · exact wpAny_pyIter_ascii ha (pi_one (tk := s1.toks) I1 _ (turn_str _ x t "str_ascii_iterator" (.inl rfl)) ⟨_, Heap.get?_push_size _ rfl, rfl, rfl⟩ q)
def itemsD : D → Option (List D)
  | .tup ds => some ds
  | .lst ds => some ds
  | .scr ns => some (ns.map .int)
  | .str x => if x.length ≤ sizeLine then some (signs x) else none
  | _ => none
def iAny (fa : EvE) : EvI := fun δ ω => (fa δ ω).bind fun d ω1 => match itemsD d with
  | some ds => .ok ds ω1
  | none => .bad
theorem id_any {tg : Expr} (h : PEd X W e fa) : PId X W tg e (iAny fa) := by
  obtain ⟨t, p1, q1⟩ := h.ex
  refine ⟨_, pi_any p1, fun M al σ H δ ω R S h => ?_⟩
  refine q1 M al σ H δ ω _ S (post_mono (fun x H1 h1 => ?_) (post_bind (rel := relE X.K M al) h))
  obtain ⟨d1, ω1, e1, S1, f1, r1, h1⟩ := h1
  cases r1 with
  | tup h l r => exact .inr (.inl ⟨_, _, rfl, h, h1 _ _ S1 f1 (itD_tup h l r)⟩)
  | lst h n l r => exact .inl ⟨_, _, rfl, SqL.of h, h1 _ _ S1 f1 (itD_lst (fun Z H' hz f => SqL.of (f.keep _ _ h fun z => n (hz _ z))) l r)⟩
  | scr h l => exact .inl ⟨_, _, rfl, h.sq, h1 _ _ S1 f1 (itD_lst (fun Z H' hz f => (f.sqF h).sq) (by rw [List.length_map]; exact l) (ints_reps _))⟩
  | scrL h n l => exact .inl ⟨_, _, rfl, SqL.of h, h1 _ _ S1 f1 (itD_lst (fun Z H' hz f => SqL.of (f.keep _ _ h fun z => n (hz _ z))) (by rw [List.length_map]; exact l) (ints_reps _))⟩
  | str x =>
    have ei : itemsD (.str x) = if x.length ≤ sizeLine then some (signs x) else none := rfl
    rw [ei] at h1
    by_cases hl : x.length ≤ sizeLine
    · rw [if_pos hl] at h1
      exact .inr (.inr ⟨_, rfl, h1 _ _ S1 f1 (itD_str hl)⟩)
    · rw [if_neg hl] at h1
      exact h1.elim
  | _ => exact h1.elim
/-! ### classes as values -/
theorem pd_ty {x : Str} {n : String} {p : Pos} (hm : X.mg x = none) (hv : bootBuiltins x = some (.type n)) (hg : Gl X x := by rfl) (hn : x ≠ "__name__" := by decide) (hd : (x == ("__debug__" : Str)) = false := by decide) : PEd X W (.Name x p) (eC (.ty n)) :=
  pd_const (pe_bltn (v := .ty n) hg hm hv rfl hn hd) fun _ _ _ => .ty n
theorem pd_own {x : Str} {p : Pos} (hm : X.mg x = some (.ref (He.ga X.K x))) (hg : Gl X x := by rfl) (hd : (x == ("__debug__" : Str)) = false := by decide) : PEd X W (.Name x p) (eC (.glo x)) :=
  pd_glob (v := .ref (He.ga X.K x)) ⟨_, hm, rfl⟩ (fun _ _ _ => .glo x) hg hd
theorem pd_gint {x : Str} {i : Int} {p : Pos} (hm : ∃ t, X.mg x = some (.int i t)) (hg : Gl X x := by rfl) (hd : (x == ("__debug__" : Str)) = false := by decide) : PEd X W (.Name x p) (eC (.int i)) := by
  obtain ⟨t, h⟩ := hm
  exact pd_glob (v := .int i) ⟨_, h, ⟨t, rfl⟩⟩ (fun _ _ _ => .int i) hg hd
theorem pd_gstr {x z : Str} {p : Pos} (hm : ∃ t, X.mg x = some (.str z t)) (hg : Gl X x := by rfl) (hd : (x == ("__debug__" : Str)) = false := by decide) : PEd X W (.Name x p) (eC (.str z)) := by
  obtain ⟨t, h⟩ := hm
  exact pd_glob (v := .str z) ⟨_, h, ⟨t, rfl⟩⟩ (fun _ _ _ => .str z) hg hd
/-! ### operators, whatever they are between -/
abbrev gEq : D → D → Option D := fun a b => (gEqS a b).or (gEqD false a b)
abbrev gNe : D → D → Option D := fun a b => (gNeS a b).or (gEqD true a b)
theorem c_eq (hu : X.A.units + 64 < cLine) : OpR X (compareOp .Eq) (fun x y H Q => rEq x y H Q ∨ rEqD X.K x y H Q) := op_eq.or (op_eqD hu)
theorem c_ne (hu : X.A.units + 64 < cLine) : OpR X (compareOp .NotEq) (fun x y H Q => rNe x y H Q ∨ rNeD X.K x y H Q) := op_ne.or (op_neD hu)
theorem o_eq : Op2 K (fun x y H Q => rEq x y H Q ∨ rEqD K x y H Q) gEq := op2_eqS.or op2_eqD
theorem o_ne : Op2 K (fun x y H Q => rNe x y H Q ∨ rNeD K x y H Q) gNe := op2_neS.or op2_neD
abbrev gMulA : D → D → Option D := fun a b => (gMul a b).or (gMulS a b)
abbrev rMulA : R2 := fun x y H Q => rI CMul (fun i j => .int (i * j)) x y H Q ∨ (fun x y H Q => ∃ (z : Str) (n : Int), x = .str z ∧ y = .int n ∧ 0 ≤ n ∧ n < 2 ^ 24 ∧ z.length * n.toNat ≤ sizeLine ∧ Q (.str (mulS z n.toNat)) H) x y H Q
theorem c_mul : OpR X (binaryOp .Mult) rMulA := op_mul.or op_mulS
theorem o_mulA : Op2 K rMulA gMulA := o_mul.or o_mulS
abbrev gLeA : D → D → Option D := fun a b => (gLeI a b).or (gLeS a b)
abbrev rLeA : R2 := fun x y H Q => rI0 (fun i j => .bl (decide (i ≤ j))) x y H Q ∨ (fun x y H Q => ∃ i j, x = .str i ∧ y = .str j ∧ Q (.bl (!decide (j.cps.toList < i.cps.toList))) H) x y H Q
theorem c_le : OpR X (compareOp .LtE) rLeA := op_le.or op_le_str
theorem o_leA : Op2 K rLeA gLeA := o_le.or o_leS
end
/-! ### what the source of draws does -/
section
abbrev setT : Om → Int → Om := fun ω k => { ω with turn := k }
abbrev setL : Om → Int → Om := fun ω k => { ω with left := k }
def gBlended : EvS := sSeq (sPar2 1 2 (aCons (eOp2 gAdd (eStI Om.turn 0) (eC (.int 1))) (aCons (eC (.int 0)) aNil))) (sSeq (sStI setT 0 (eVar 1)) (sSeq (sFor (iAny (eOpN gLst (aCons (eC (.int 2147481529)) (aCons (eC (.int 2147481509)) (aCons (eC (.int 2147481499)) aNil))))) (gdName 3)
  (sSeq (sSet 4 (eOp2 gAdd (eOp2 gMulA (eC (.int 46819)) (eVar 1)) (eOp2 gDiv (eVar 3) (eC (.int 89)))))
  (sSeq (sForC 0 (gdName 5) (sSet 4 (eOp2 gMod (eOpN gInt (aCons (eOp2 gAdd (eOp2 gAdd (eOp2 gMulA (eVar 4) (eC (.int 66889))) (eVar 5)) (eVar 1)) aNil)) (eVar 3))))
    (sSet 2 (eOp2 gAdd (eOp2 gMulA (eVar 2) (eC (.int 2147483647))) (eOp2 gMod (eOpN gInt (aCons (eOp2 gPow (eVar 4) (eC (.int 5))) aNil)) (eVar 3)))))))
  (sRet (eVar 2))))
def gDraw (fb : List D → Om → Rs D) : EvS := sSeq (sIf (tB (eOp2 gEq (eStI Om.left 0) (eC (.int 0)))) (sStI setL 0 (eIf (tGreat 0) (ePop 0) (eCall fb (aCons (eVar 0) aNil)))) sNext)
  (sSeq (sSet 2 (eOp2 gMod (eOpN gInt (aCons (eStI Om.left 0) aNil)) (eVar 1))) (sSeq (sStI setL 0 (eOp2 gDiv (eStI Om.left 0) (eVar 1))) (sRet (eVar 2))))
def gPick (fd : List D → Om → Rs D) : EvS := sRet (eOp2 gIx (eVar 1) (eCall fd (aCons (eVar 0) (aCons (eOpN gLen (aCons (eVar 1) aNil)) aNil))))
end
end DL

namespace DL
open PySem PySem.Spec PyProof.Rows L2 LamX
/-! ### the source of draws, reckoned -/
def bodyC : EvS := sSet 4 (eOp2 gMod (eOpN gInt (aCons (eOp2 gAdd (eOp2 gAdd (eOp2 gMulA (eVar 4) (eC (.int 66889))) (eVar 5)) (eVar 1)) aNil)) (eVar 3))
theorem gMul_r {i j : Int} (h1 : -(2 ^ 64) < j) (h2 : j < 2 ^ 64) : gMulA (.int i) (.int j) = some (.int (i * j)) := by
  show (if CMul i j then some (D.int (i * j)) else none).or _ = _
  rw [if_pos (show CMul i j from Or.inr ⟨h1, h2⟩)]
  rfl
theorem gMul_l {i j : Int} (h1 : -(2 ^ 64) < i) (h2 : i < 2 ^ 64) : gMulA (.int i) (.int j) = some (.int (i * j)) := by
  show (if CMul i j then some (D.int (i * j)) else none).or _ = _
  rw [if_pos (show CMul i j from Or.inl ⟨h1, h2⟩)]
  rfl
theorem gMod_p {i j : Int} (h : 0 < j) : gMod (.int i) (.int j) = some (.int (i % j)) := if_pos h
theorem gDiv_p {i j : Int} (h : 0 < j) (h2 : j < 1073741824) : gDiv (.int i) (.int j) = some (.int (i / j)) := if_pos ⟨h, h2⟩
theorem gPow_p {i j : Int} (h0 : 0 ≤ j) (h1 : j ≤ 1000000) (h2 : i.natAbs < 2 ^ 64) : gPow (.int i) (.int j) = some (.int (i ^ j.toNat)) := if_pos ⟨h0, h1, h2⟩
theorem gAdd_i {i j : Int} : gAdd (.int i) (.int j) = some (.int (i + j)) := rfl
theorem rs1_some (d : D) (ω : Om) : rs1 (some d) ω = .ok d ω := rfl
theorem bodyC_run {s : Sl} {t f p b c : Int} {ω : Om} (hp : 0 < p) : bodyC [s, .val (.int t), .val (.int f), .val (.int p), .val (.int b), .val (.int c)] ω = .ok (.nx [s, .val (.int t), .val (.int f), .val (.int p), .val (.int ((b * 66889 + c + t) % p)), .val (.int c)]) ω := by
  show Rs.bind (Rs.bind (Rs.bind (Rs.bind (Rs.bind (Rs.bind (rs1 (gMulA (.int b) (.int 66889)) ω) _) _) _) _) _) _ = _
  rw [gMul_r (by decide) (by decide)]
  show Rs.bind (rs1 (gMod (.int (b * 66889 + c + t)) (.int p)) ω) _ = _
  rw [gMod_p hp]
  rfl
theorem loopC_run {t f p : Int} {ω : Om} {s : Sl} (hp : 0 < p) : ∀ (ds : List Int) (b : Int) (s5 : Sl), ∃ s5', loopC ω.cells (gdName 5) bodyC ds [s, .val (.int t), .val (.int f), .val (.int p), .val (.int b), s5] ω =
    .ok (.nx [s, .val (.int t), .val (.int f), .val (.int p), .val (.int (ds.foldl (fun b c => (b * 66889 + c + t) % p) b)), s5']) ω
  | [], b, s5 => ⟨s5, rfl⟩
  | d :: ds, b, s5 => by
    obtain ⟨s5', h⟩ := loopC_run hp ds ((b * 66889 + d + t) % p) (.val (.int d))
    refine ⟨s5', ?_⟩
    show Rs.bind (bodyC [s, .val (.int t), .val (.int f), .val (.int p), .val (.int b), .val (.int d)] ω) _ = _
    rw [bodyC_run hp]
    show (if ω.cells = ω.cells then _ else _) = _
    rw [if_pos rfl, h]
    rfl
theorem blendP_small {t p : Int} {cs : List Int} (ht : 0 ≤ t) (ht2 : t ≤ 2 ^ 40) (hp : 0 < p) (hp2 : p < 2 ^ 31) : (cs.foldl (fun b c => (b * 66889 + c + t) % p) (46819 * t + p / 89)).natAbs < 2 ^ 64 := by
  have key : ∀ (cs : List Int) (b : Int), 0 ≤ b → b < 2 ^ 60 → 0 ≤ cs.foldl (fun b c => (b * 66889 + c + t) % p) b ∧ cs.foldl (fun b c => (b * 66889 + c + t) % p) b < 2 ^ 60 := by
    intro cs
    induction cs with
    | nil => exact fun b h1 h2 => ⟨h1, h2⟩
    | cons c r ih =>
      intro b h1 h2
      refine ih _ (Int.emod_nonneg _ (by omega)) ?_
      have := Int.emod_lt_of_pos (b * 66889 + c + t) hp
      show (b * 66889 + c + t) % p < 2 ^ 60
      omega
  have h3 : 0 ≤ p / 89 := Int.ediv_nonneg (by omega) (by decide)
  have h4 : p / 89 ≤ p := Int.ediv_le_self _ (by omega)
  obtain ⟨h1, h2⟩ := key cs (46819 * t + p / 89) (by omega) (by omega)
  omega
def bodyP : EvS := sSeq (sSet 4 (eOp2 gAdd (eOp2 gMulA (eC (.int 46819)) (eVar 1)) (eOp2 gDiv (eVar 3) (eC (.int 89)))))
  (sSeq (sForC 0 (gdName 5) bodyC) (sSet 2 (eOp2 gAdd (eOp2 gMulA (eVar 2) (eC (.int 2147483647))) (eOp2 gMod (eOpN gInt (aCons (eOp2 gPow (eVar 4) (eC (.int 5))) aNil)) (eVar 3)))))
theorem bodyP_run {t f p : Int} {s4 s5 : Sl} {ω : Om} (ht : 0 ≤ t) (ht2 : t ≤ 2 ^ 40) (hp : 0 < p) (hp2 : p < 2 ^ 31) : ∃ s4' s5', bodyP [.val .st, .val (.int t), .val (.int f), .val (.int p), s4, s5] ω = .ok (.nx [.val .st, .val (.int t), .val (.int (f * 2147483647 + (blendP t ω.cells p) ^ 5 % p)), .val (.int p), s4', s5']) ω := by
  obtain ⟨s5', h⟩ := loopC_run (ω := ω) (t := t) (f := f) (s := .val .st) hp ω.cells (46819 * t + p / 89) s5
  refine ⟨.val (.int (blendP t ω.cells p)), s5', ?_⟩
  have e1 : gMulA (.int 46819) (.int t) = some (.int (46819 * t)) := gMul_l (by decide) (by decide)
  have e2 : gDiv (.int p) (.int 89) = some (.int (p / 89)) := gDiv_p (by decide) (by decide)
  have e3 : gMulA (.int f) (.int 2147483647) = some (.int (f * 2147483647)) := gMul_r (by decide) (by decide)
  have e4 : gPow (.int (blendP t ω.cells p)) (.int 5) = some (.int (blendP t ω.cells p ^ 5)) := gPow_p (by decide) (by decide) (blendP_small ht ht2 hp hp2)
  have e5 : gMod (.int (blendP t ω.cells p ^ 5)) (.int p) = some (.int (blendP t ω.cells p ^ 5 % p)) := gMod_p hp
  have e6 : gInt [.int (blendP t ω.cells p ^ 5)] = some (.int (blendP t ω.cells p ^ 5)) := rfl
  have h' : loopC ω.cells (gdName 5) bodyC ω.cells [.val .st, .val (.int t), .val (.int f), .val (.int p), .val (.int (46819 * t + p / 89)), s5] ω = .ok (.nx [.val .st, .val (.int t), .val (.int f), .val (.int p), .val (.int (blendP t ω.cells p)), s5']) ω := h
  simp only [bodyP, sSeq, sSet, sForC, eOp2, eOpN, eVar, eC, aCons, aNil, Rs.bind_ok, rs1_some, List.getElem?_cons_zero, List.getElem?_cons_succ, List.set_cons_zero, List.set_cons_succ, e1, e2, e3, e4, e5, e6, gAdd_i, h']
theorem blended_run {ω : Om} (ht : 0 ≤ ω.turn) (ht2 : ω.turn < 2 ^ 40) : runB 6 gBlended [.st] ω = .ok (.int (blendV ω)) { ω with turn := ω.turn + 1 } := by
  let ω' : Om := { ω with turn := ω.turn + 1 }
  have hx : ∀ f p s4 s5, 0 < p → p < 2 ^ 31 → ∃ s4' s5', bodyP [.val .st, .val (.int (ω.turn + 1)), .val (.int f), .val (.int p), s4, s5] ω' = .ok (.nx [.val .st, .val (.int (ω.turn + 1)), .val (.int (f * 2147483647 + (blendP (ω.turn + 1) ω.cells p) ^ 5 % p)), .val (.int p), s4', s5']) ω' := fun f p s4 s5 h1 h2 => bodyP_run (by omega) (by omega) h1 h2
  obtain ⟨a1, a2, h1⟩ := hx 0 2147481529 .emp .emp (by decide) (by decide)
  obtain ⟨b1, b2, h2⟩ := hx (0 * 2147483647 + (blendP (ω.turn + 1) ω.cells 2147481529) ^ 5 % 2147481529) 2147481509 a1 a2 (by decide) (by decide)
  obtain ⟨c1, c2, h3⟩ := hx ((0 * 2147483647 + (blendP (ω.turn + 1) ω.cells 2147481529) ^ 5 % 2147481529) * 2147483647 + (blendP (ω.turn + 1) ω.cells 2147481509) ^ 5 % 2147481509) 2147481499 b1 b2 (by decide) (by decide)
  have h0 : (fun δ ω => (sFor (iAny (eOpN gLst (aCons (eC (.int 2147481529)) (aCons (eC (.int 2147481509)) (aCons (eC (.int 2147481499)) aNil))))) (gdName 3) bodyP) δ ω) [.val .st, .val (.int (ω.turn + 1)), .val (.int 0), .emp, .emp, .emp] ω' = .ok (.nx [.val .st, .val (.int (ω.turn + 1)), .val (.int (blendV ω)), .val (.int 2147481499), c1, c2]) ω' := by
    have e : gLst [.int 2147481529, .int 2147481509, .int 2147481499] = some (.lst [.int 2147481529, .int 2147481509, .int 2147481499]) := if_pos (by show (3 : Nat) ≤ sizeLine; decide)
    show (sFor _ _ _) _ _ = _
    simp only [sFor, iAny, eOpN, aCons, aNil, eC, Rs.bind_ok, e, rs1_some, itemsD]
    show loopF (gdName 3) bodyP [.int 2147481529, .int 2147481509, .int 2147481499] [.val .st, .val (.int (ω.turn + 1)), .val (.int 0), .emp, .emp, .emp] ω' = _
    show Rs.bind (bodyP [.val .st, .val (.int (ω.turn + 1)), .val (.int 0), .val (.int 2147481529), .emp, .emp] ω') _ = _
    rw [h1]
    show Rs.bind (bodyP [.val .st, .val (.int (ω.turn + 1)), .val (.int _), .val (.int 2147481509), a1, a2] ω') _ = _
    rw [h2]
    show Rs.bind (bodyP [.val .st, .val (.int (ω.turn + 1)), .val (.int _), .val (.int 2147481499), b1, b2] ω') _ = _
    rw [h3]
    rfl
  show Rs.bind (Rs.bind ((fun δ ω => (sFor (iAny (eOpN gLst (aCons (eC (.int 2147481529)) (aCons (eC (.int 2147481509)) (aCons (eC (.int 2147481499)) aNil))))) (gdName 3) bodyP) δ ω) [.val .st, .val (.int (ω.turn + 1)), .val (.int 0), .emp, .emp, .emp] ω') _) _ = _
  rw [h0]
  rfl
end DL

namespace DL
open PySem PySem.Spec PyProof.Rows L2 LamX
def turnOk (ω : Om) : Prop := 0 ≤ ω.turn ∧ ω.turn < 2 ^ 40
instance (ω : Om) : Decidable (turnOk ω) := by unfold turnOk; infer_instance
def blendF : List D → Om → Rs D := fun ds ω => match ds with
  | [.st] => if turnOk ω then .ok (.int (blendV ω)) { ω with turn := ω.turn + 1 } else .bad
  | _ => .bad
theorem blendF_ok : ∀ ds ω, blendF ds ω ≠ .bad → runB 6 gBlended ds ω = blendF ds ω := by
  intro ds ω h
  unfold blendF at h ⊢
  split at h
  · split at h
    · rename_i ht
      rw [if_pos ht]
      exact blended_run ht.1 ht.2
    · exact absurd rfl h
  · exact absurd rfl h
def drawF : List D → Om → Rs D := fun ds ω => match ds with
  | [.st, .int n] => if 0 < n ∧ n < 2 ^ 30 ∧ turnOk ω then .ok (.int (drawI n ω)) (drawO n ω) else .bad
  | _ => .bad
theorem gEq_ii (i j : Int) : gEq (.int i) (.int j) = some (.bl (decide (i = j))) := by
  show (if scal (.int i) (.int j) = true then some (D.bl (decide (V.int i = V.int j))) else none).or _ = _
  rw [if_pos (show scal (.int i) (.int j) = true from rfl)]
  show some _ = some _
  congr 2
  by_cases h : i = j
  · rw [h]; simp
  · rw [decide_eq_false h, decide_eq_false]
    intro e
    cases e
    exact h rfl
theorem drawF_ok : ∀ ds ω, drawF ds ω ≠ .bad → runB 3 (gDraw blendF) ds ω = drawF ds ω := by
  intro ds ω h
  unfold drawF at h ⊢
  split at h
  · rename_i n
    split at h
    · rename_i hc
      rw [if_pos hc]
      obtain ⟨h1, h2, ht⟩ := hc
      have e5 : ∀ i, gMod (.int i) (.int n) = some (.int (i % n)) := fun i => gMod_p h1
      have e6 : ∀ i, gInt [.int i] = some (.int i) := fun i => rfl
      have e7 : ∀ i, gDiv (.int i) (.int n) = some (.int (i / n)) := fun i => gDiv_p h1 h2
      have tail : ∀ ω1 : Om, (sSeq (sSet 2 (eOp2 gMod (eOpN gInt (aCons (eStI Om.left 0) aNil)) (eVar 1))) (sSeq (sStI setL 0 (eOp2 gDiv (eStI Om.left 0) (eVar 1))) (sRet (eVar 2)))) [.val .st, .val (.int n), .emp] ω1 = .ok (.rt (.int (ω1.left % n))) { ω1 with left := ω1.left / n } := fun ω1 => by
        simp only [sSeq, sSet, sStI, sRet, eOp2, eOpN, eStI, eVar, eC, aCons, aNil, Rs.bind_ok, rs1_some, List.getElem?_cons_zero, List.getElem?_cons_succ, List.set_cons_zero, List.set_cons_succ, e5, e6, e7]
      have start : (sIf (tB (eOp2 gEq (eStI Om.left 0) (eC (.int 0)))) (sStI setL 0 (eIf (tGreat 0) (ePop 0) (eCall blendF (aCons (eVar 0) aNil)))) sNext) [.val .st, .val (.int n), .emp] ω = .ok (.nx [.val .st, .val (.int n), .emp]) (refill ω) := by
        unfold refill
        by_cases h0 : ω.left = 0
        · rw [if_pos h0]
          cases hg : ω.great with
          | nil =>
            have eb : blendF [.st] ω = .ok (.int (blendV ω)) { ω with turn := ω.turn + 1 } := if_pos ht
            simp only [sIf, tB, sStI, eIf, tGreat, eCall, eOp2, eStI, eC, eVar, aCons, aNil, Rs.bind_ok, rs1_some, List.getElem?_cons_zero, List.getElem?_cons_succ, gEq_ii, h0, decide_true, if_true, hg, List.isEmpty_nil, Bool.not_true, Bool.false_eq_true, if_false, eb]
          | cons g gs =>
            simp only [sIf, tB, sStI, eIf, tGreat, ePop, eCall, eOp2, eStI, eC, eVar, aCons, aNil, Rs.bind_ok, rs1_some, List.getElem?_cons_zero, List.getElem?_cons_succ, gEq_ii, h0, decide_true, if_true, hg, List.isEmpty_cons, Bool.not_false]
        · rw [if_neg h0]
          simp only [sIf, tB, sNext, eOp2, eStI, eC, Rs.bind_ok, rs1_some, List.getElem?_cons_zero, gEq_ii, h0, decide_false, Bool.false_eq_true, if_false]
      show Rs.bind (Rs.bind ((sIf (tB (eOp2 gEq (eStI Om.left 0) (eC (.int 0)))) (sStI setL 0 (eIf (tGreat 0) (ePop 0) (eCall blendF (aCons (eVar 0) aNil)))) sNext) [.val .st, .val (.int n), .emp] ω) _) _ = _
      rw [start]
      show Rs.bind ((sSeq (sSet 2 (eOp2 gMod (eOpN gInt (aCons (eStI Om.left 0) aNil)) (eVar 1))) (sSeq (sStI setL 0 (eOp2 gDiv (eStI Om.left 0) (eVar 1))) (sRet (eVar 2)))) [.val .st, .val (.int n), .emp] (refill ω)) _ = _
      rw [tail]
      rfl
    · exact absurd rfl h
  · exact absurd rfl h
theorem drawI_lt {n : Int} {ω : Om} (h : 0 < n) : 0 ≤ drawI n ω ∧ drawI n ω < n := ⟨Int.emod_nonneg _ (by omega), Int.emod_lt_of_pos _ h⟩
theorem refill_turn (ω : Om) : (refill ω).turn = ω.turn ∨ (refill ω).turn = ω.turn + 1 := by
  unfold refill
  split
  · split
    · exact .inl rfl
    · exact .inr rfl
  · exact .inl rfl
theorem drawO_turn (n : Int) (ω : Om) : (drawO n ω).turn = ω.turn ∨ (drawO n ω).turn = ω.turn + 1 := refill_turn ω
/-- what a choice is made of -/
def choices : D → Option (List D)
  | .tup ds => some ds
  | .lst ds => some ds
  | .str x => some (signs x)
  | _ => none
def pickF : List D → Om → Rs D := fun ds ω => match ds with
  | [.st, d] => match choices d with
    | some xs => if 0 < xs.length ∧ xs.length < 2 ^ 24 ∧ turnOk ω then .ok (xs.getD (drawI xs.length ω).toNat .non) (drawO xs.length ω) else .bad
    | none => .bad
  | _ => .bad
theorem atI_ok {α : Type} {xs : List α} {i : Int} (h0 : 0 ≤ i) (h1 : i < xs.length) : atI xs i = xs[i.toNat]? := by
  unfold atI ixN
  have : i.toNat < xs.length := by omega
  simp [h0, show ¬ i < 0 by omega, this, h1]
theorem gLen_choices {d : D} {xs : List D} (h : choices d = some xs) (hl : xs.length < 2 ^ 24) : gLen [d] = some (.int xs.length) := by
  unfold choices at h
  split at h
  · cases h; rfl
  · cases h; rfl
  · cases h
    rename_i x
    rw [signs_length] at hl ⊢
    show (if x.length ≤ sizeLine then some (D.int x.length) else none) = _
    have hs : sizeLine = 2 ^ 24 := rfl
    have hl' : x.length < 2 ^ 24 := hl
    rw [if_pos (by omega)]
    rfl
  · cases h
theorem gIx_choices {d : D} {xs : List D} {i : Int} (h : choices d = some xs) (hl : xs.length < 2 ^ 24) (h0 : 0 ≤ i) (h1 : i < xs.length) : gIx d (.int i) = some (xs.getD i.toNat .non) := by
  have hi : i.toNat < xs.length := by omega
  have e0 : xs.getD i.toNat .non = xs[i.toNat] := by simp [hi]
  rw [e0]
  unfold choices at h
  split at h
  · cases h
    show (none : Option D).or ((atI xs i).or none) = _
    rw [atI_ok h0 h1, List.getElem?_eq_getElem hi]
    rfl
  · cases h
    show (atI xs i).or _ = _
    rw [atI_ok h0 h1, List.getElem?_eq_getElem hi]
    rfl
  · cases h
    rename_i x
    rw [signs_length] at hl
    have hl' : x.length < 2 ^ 24 := hl
    have hs : sizeLine = 2 ^ 24 := rfl
    show (none : Option D).or ((none : Option D).or (if x.length ≤ sizeLine then (atI x.cps.toList i).map fun c => D.str ⟨#[c]⟩ else none)) = _
    rw [if_pos (by omega)]
    have hi2 : i < (x.cps.toList.length : Nat) := by
      have := h1
      rw [signs_length] at this
      rw [Array.length_toList]
      exact this
    have hi3 : i.toNat < x.cps.toList.length := by omega
    rw [atI_ok h0 hi2, List.getElem?_eq_getElem hi3]
    show some _ = some _
    congr 1
    simp [signs]
  · cases h
theorem pickF_ok : ∀ ds ω, pickF ds ω ≠ .bad → runB 2 (gPick drawF) ds ω = pickF ds ω := by
  intro ds ω h
  unfold pickF at h ⊢
  split at h
  · rename_i d
    split at h
    · rename_i xs hx
      split at h
      · rename_i hc
        rw [if_pos hc]
        obtain ⟨h1, h2, h3⟩ := hc
        have e1 := gLen_choices hx h2
        have hn : (0 : Int) < (xs.length : Nat) := by omega
        have e2 : drawF [.st, .int xs.length] ω = .ok (.int (drawI xs.length ω)) (drawO xs.length ω) := if_pos ⟨hn, by omega, h3⟩
        obtain ⟨d1, d2⟩ := drawI_lt (ω := ω) hn
        have e3 := gIx_choices hx h2 d1 d2
        show Rs.bind ((gPick drawF) [.val .st, .val d] ω) _ = _
        simp only [gPick, sRet, eOp2, eCall, eOpN, eVar, aCons, aNil, Rs.bind_ok, rs1_some, List.getElem?_cons_zero, List.getElem?_cons_succ, e1, e2, e3]
      · exact absurd rfl h
    · exact absurd rfl h
  · exact absurd rfl h
end DL

namespace DL
open PySem PySem.Spec PyProof.Rows L2 LamX
theorem hu_of {ts : List (Addr × Str)} (nd : (ts.map (·.1)).Nodup) {P : Addr} {q : Str} (h : (P, q) ∈ ts) : ∀ p ∈ ts, p.1 = P → p.2 = q := by
  induction ts with
  | nil => cases h
  | cons t r ih =>
    rw [List.map_cons, List.nodup_cons] at nd
    intro p hp e
    rcases List.mem_cons.mp hp with rfl | hp
    · rcases List.mem_cons.mp h with h | h
      · rw [← h]
      · exact absurd (List.mem_map.mpr ⟨_, h, e.symm⟩) nd.1
    · rcases List.mem_cons.mp h with h | h
      · exact absurd (List.mem_map.mpr ⟨p, hp, by rw [e, ← h]⟩) nd.1
      · exact ih nd.2 h p hp e
theorem tabs_new {T : List (Addr × Str)} {H : Hp} (h : ∀ p ∈ T, H p.1 = some (.tbl #[])) : Tabs T H := fun p hp => ⟨#[], h p hp, trivial, fun pos cv e => by cases e⟩
theorem units1 {n m : Nat} (h : n + 64 < m) : n + 1 < m := by omega
theorem kb_cs_of {kb : List (Cn × Cn × Bool)} {cs : List Str} (h : (kb.all fun p => match p.1 with | .own c => decide (c ∈ cs) | _ => true) = true) : ∀ p ∈ kb, ∀ c, p.1 = .own c → c ∈ cs := fun p hp c e => by
  have q := List.all_eq_true.mp h p hp
  rw [e] at q
  exact of_decide_eq_true q
section
variable {Pr : Program} {w : World} {K : PySem.W.Frag} {mg : Str → Option Value} {base : Heap} {x qual : Str} {st : Stmt} {fd : FuncData} {k : Nat}
theorem fun_of {f : Addr} (F : FunD K x qual (defArgs st) (defBody st) (defScope st) [] [] f fd) : Fun K x qual st f fd := by
  have kp := F.kp
  obtain ⟨oc, od, dV, kV, doc, pm, an, cdv, ct, osl, rfl, lk, hcd, hD, _⟩ := F.ex
  rcases hD with ⟨_, rfl⟩ | ⟨e, _⟩
  · exact ⟨⟨oc, od, kV, doc, pm, an, cdv, ct, osl, rfl, lk, hcd⟩, kp⟩
  · exact absurd rfl e
theorem law_okC {T : List (Addr × Str)} {N : List Str} {g : EvS} (F : FunD K x qual (defArgs st) (defBody st) (defScope st) [] [] (He.ga K x) fd) (sc : FnScope ("script" :: "state" :: N) ["script"] (defScope st))
    (hb : ∀ (cdv : Value), cdv = .ref (He.codeOf K (x, none)) → ∀ (A : Around) (outer : List Env) (s : Shared) (H : Hp) (E : XK), Room k (A.deeper (envOfC qual (defScope st) s.heap.objs.size (He.ga K x) cdv)) → Takes (cxOf (L2.CX Pr w) Pr w K mg base ("script" :: "state" :: N) qual (defScope st) (He.ga K x) cdv A outer s H E) (fun cls d _ H => E cls d H) →
      ∃ st0 rest, defBody st = st0 :: rest ∧ PS (cxOf (L2.CX Pr w) Pr w K mg base ("script" :: "state" :: N) qual (defScope st) (He.ga K x) cdv A outer s H E) st0 (tAsg (tBegun K T E) (gName 1)) ∧
        PSsd (cxOf (L2.CX Pr w) Pr w K mg base ("script" :: "state" :: N) qual (defScope st) (He.ga K x) cdv A outer s H E) ⟨E, PD T⟩ rest g) :
    FnOk Pr w K mg base (L2.CX Pr w) (k + 1) (He.ga K x) fd ["script"] (spLaw K T N.length g) := by
  obtain ⟨oc, od, dV, kV, doc, pm, an, cdv, ct, osl, rfl, lk, hcd, _, _⟩ := F.ex
  obtain ⟨c, ec⟩ := He.codeIn_ref hcd
  have e2 : cdv = .ref (He.codeOf K (x, none)) := by
    have := He.codeOf_eq (p := (x, none)) lk ec
    rw [this, ec]
  refine fn_of lk hcd sc (fun vs H Q E ⟨a, ns, h, _⟩ => by rw [h]; rfl) fun A outer s H vs Q E hr h => ?_
  obtain ⟨a, ns, rfl, hs, hl, tT, ⟨ω', hg⟩, h⟩ := h
  obtain ⟨st0, rest, eb, p0, hrest⟩ := hb cdv e2 A outer s H E hr (takes_of rfl rfl rfl rfl)
  obtain ⟨t, p1, q1⟩ := hrest.ex
  refine ⟨_, by rw [eb]; exact pss_cons p0 p1, ?_⟩
  refine ⟨_, rfl, a, ns, rfl, hs, hl, tT, fun sa ga ca H' fr n1 n2 n3 dg tT' => ?_⟩
  let Z : Addr → Prop := fun b => b = sa ∨ b = ga ∨ b = ca
  let M : Fm := ⟨sa, Z, Z, fun ω H => DrawG sa ga ca ω H ∧ Tabs T H, H'⟩
  have na : Tr H a → ¬ Z a := fun t z => by
    rcases z with z | z | z
    · exact n1 (z ▸ t)
    · exact n2 (z ▸ t)
    · exact n3 (z ▸ t)
  have rs : Rep K sa Z H' (.ref a) (.scr ns) := by
    have r := scr_rep (N := Z) (sa := sa) hs hl na
    exact r.mono (Z := fun _ => False) fr fun _ z => z.elim
  have S0 : DSt K (PD T) M (fun _ => none) (L2.start ("script" :: "state" :: N) [V.ref a, V.ref sa]) H' ([D.scr ns, D.st].map .val ++ List.replicate N.length .emp) (om0 ns) := by
    refine DSt.start (M := M) (n := 2) (ds := [.scr ns, .st]) ⟨ga, ca, rfl, rfl⟩ (fun _ z => z) PD.gm ⟨dg, tT'⟩ (fun b z => ?_) (.cons rs (.cons .st .nil)) rfl (by show N.length + 1 + 1 = 2 + (N.length + 1 + 1 - 2); omega)
    rcases z with z | z | z
    · rw [z]; exact ⟨_, dg.d, trivial⟩
    · rw [z]; exact ⟨_, dg.g, trivial⟩
    · rw [z]; exact ⟨_, dg.c, trivial⟩
  have es : (L2.start ("script" :: "state" :: N) [V.ref a]).set 1 (some (V.ref sa)) = L2.start ("script" :: "state" :: N) [V.ref a, V.ref sa] := by
    unfold L2.start
    rfl
  show t _ ((L2.start ("script" :: "state" :: N) [V.ref a]).set 1 (some (V.ref sa))) H'
  rw [es]
  refine q1 M _ _ _ _ (om0 ns) _ S0 ?_
  show PostS _ M _ _ (g (.val (.scr ns) :: .val .st :: List.replicate N.length .emp) (om0 ns)) _ _
  rw [hg]
  intro v H2 _ _ r
  cases r
  exact h H2
end
end DL

namespace DL
open PySem PySem.Spec PyProof.Rows L2 LamX
open SX (S S_tl S_inj S_len S_cat)
/-! ### texts as lists of signs -/
abbrev tl (x : Str) : List Nat := x.cps.toList
theorem str_S (x : Str) : D.str x = D.str (S (tl x)) := by rw [S_tl]
theorem tl_S (l : List Nat) : tl (S l) = l := rfl
theorem signs_eq (x : Str) : signs x = (tl x).map fun c => D.str (S [c]) := rfl
theorem bls_map {α : Type} (b : α → Bool) : ∀ l : List α, blsOf (l.map fun c => D.bl (b c)) = some (l.map b)
  | [] => rfl
  | c :: r => by
    show (blsOf (r.map fun c => D.bl (b c))).map (b c :: ·) = _
    rw [bls_map b r]
    rfl
theorem gAll_map {α : Type} (b : α → Bool) (l : List α) : gAll [.lst (l.map fun c => D.bl (b c))] = some (.bl (l.all b)) := by
  show (blsOf _).map _ = _
  rw [bls_map]
  show some (D.bl ((l.map b).all id)) = _
  rw [List.all_map]
  rfl
theorem ints_map {α : Type} (b : α → Int) : ∀ l : List α, intsOf (l.map fun c => D.int (b c)) = some (l.map b)
  | [] => rfl
  | c :: r => by
    show (intsOf (r.map fun c => D.int (b c))).map (b c :: ·) = _
    rw [ints_map b r]
    rfl
theorem gSum_map {α : Type} (b : α → Int) (l : List α) : gSum [.lst (l.map fun c => D.int (b c))] = some (.int (l.map b).sum) := by
  show (intsOf _).map _ = _
  rw [ints_map]
  rfl
/-- a comprehension without tests and effects over a mapped list -/
theorem compF_map {α : Type} {g : EvG} {fe : EvE} {δ : Sls} {ω : Om} (u v : α → D) : ∀ l : List α, (∀ c, c ∈ l → ∃ δ1, g (u c) δ ω = some δ1 ∧ fe δ1 ω = .ok (v c) ω) → compF g tTrue fe δ (l.map u) ω = .ok (l.map v) ω
  | [], _ => rfl
  | c :: r, h => by
    obtain ⟨δ1, h1, h2⟩ := h c (by simp)
    have ih := compF_map u v r fun x hx => h x (by simp [hx])
    rw [List.map_cons]
    unfold compF
    rw [h1]
    dsimp only [tTrue]
    rw [Rs.bind_ok, if_pos rfl, h2, Rs.bind_ok, ih, Rs.bind_ok]
    rfl
theorem loopF_step {g : EvG} {body : EvS} {d : D} {ds : List D} {δ δ1 δ2 : Sls} {ω ω2 : Om} (hg : g d δ ω = some δ1) (hb : body δ1 ω = .ok (.nx δ2) ω2) : loopF g body (d :: ds) δ ω = loopF g body ds δ2 ω2 := by
  show (match g d δ ω with
    | none => (Rs.bad : Rs Fl)
    | some δ1 => (body δ1 ω).bind fun fl ω2 => match fl with
      | .nx δ2 => loopF g body ds δ2 ω2
      | .ct δ2 => loopF g body ds δ2 ω2
      | .bk δ2 => .ok (.nx δ2) ω2
      | .rt d => .ok (.rt d) ω2) = _
  rw [hg]
  dsimp only
  rw [hb]
  rfl
theorem loopF_nil {g : EvG} {body : EvS} {δ : Sls} {ω : Om} : loopF g body [] δ ω = .ok (.nx δ) ω := rfl
/-! ### slices -/
theorem cut_to {l : List Nat} {k : Nat} : cutS (S l) none (some (k : Int)) = S (l.take k) := by
  unfold cutS
  rw [HT.sIx_none, HT.sIx_nat, List.drop_zero, Nat.sub_zero, S_len]
  show S (l.take (min k l.length)) = _
  congr 1
  by_cases h : k ≤ l.length
  · rw [Nat.min_eq_left h]
  · rw [Nat.min_eq_right (by omega), List.take_length, List.take_of_length_le (by omega)]
theorem cut_from {l : List Nat} {k : Nat} : cutS (S l) (some (k : Int)) none = S (l.drop k) := by
  unfold cutS
  rw [HT.sIx_none, HT.sIx_nat, S_len]
  show S ((l.drop (min k l.length)).take (l.length - min k l.length)) = _
  by_cases h : k ≤ l.length
  · rw [Nat.min_eq_left h, List.take_of_length_le (by rw [List.length_drop]; omega)]
  · rw [Nat.min_eq_right (by omega), Nat.sub_self, List.take_zero, List.drop_eq_nil_of_le (by omega)]
theorem cut_mid {l : List Nat} {a b : Nat} (h : a ≤ b) : cutS (S l) (some (a : Int)) (some (b : Int)) = S ((l.drop a).take (b - a)) := by
  unfold cutS
  rw [HT.sIx_nat, HT.sIx_nat, S_len]
  show S ((l.drop (min a l.length)).take (min b l.length - min a l.length)) = _
  congr 1
  by_cases h1 : a ≤ l.length
  · rw [Nat.min_eq_left h1]
    by_cases h2 : b ≤ l.length
    · rw [Nat.min_eq_left h2]
    · rw [Nat.min_eq_right (by omega), List.take_of_length_le (by rw [List.length_drop]; omega), List.take_of_length_le (by rw [List.length_drop]; omega)]
  · rw [Nat.min_eq_right (by omega : l.length ≤ a), List.drop_eq_nil_of_le (by omega), List.drop_eq_nil_of_le (by omega)]
    simp
theorem gSl_S {l : List Nat} {lo hi : Option Int} (h : l.length ≤ sizeLine) : gSl (.str (S l)) lo hi = some (.str (cutS (S l) lo hi)) := by
  show (none : Option D).or ((none : Option D).or (if (S l).length ≤ sizeLine then some (D.str (cutS (S l) lo hi)) else none)) = _
  rw [S_len, if_pos h]
  rfl
theorem gAdd_S {a b : List Nat} (h : a.length + b.length ≤ sizeLine) : gAdd (.str (S a)) (.str (S b)) = some (.str (S (a ++ b))) := by
  show (none : Option D).or ((if (S a).length + (S b).length ≤ sizeLine then some (D.str (S a ++ S b)) else none).or _) = _
  rw [S_len, S_len, if_pos h, S_cat]
  rfl
theorem gLen_S {l : List Nat} (h : l.length ≤ sizeLine) : gLen [.str (S l)] = some (.int l.length) := by
  show (if (S l).length ≤ sizeLine then some (D.int (S l).length) else none) = _
  rw [S_len, if_pos h]
theorem gEq_S (a b : List Nat) : gEq (.str (S a)) (.str (S b)) = some (.bl (decide (a = b))) := by
  show (if scal (.str (S a)) (.str (S b)) = true then some (D.bl (decide (V.str (S a) = V.str (S b)))) else none).or _ = _
  rw [if_pos (show scal (.str (S a)) (.str (S b)) = true from rfl)]
  show some _ = some _
  congr 2
  by_cases h : a = b
  · rw [h]; simp
  · rw [decide_eq_false h, decide_eq_false]
    intro e
    injection e with e
    exact h (S_inj e)
theorem gNe_S (a b : List Nat) : gNe (.str (S a)) (.str (S b)) = some (.bl (!decide (a = b))) := by
  show (if scal (.str (S a)) (.str (S b)) = true then some (D.bl (!decide (V.str (S a) = V.str (S b)))) else none).or _ = _
  rw [if_pos (show scal (.str (S a)) (.str (S b)) = true from rfl)]
  show some _ = some _
  congr 3
  by_cases h : a = b
  · rw [h]; simp
  · rw [decide_eq_false h, decide_eq_false]
    intro e
    injection e with e
    exact h (S_inj e)
/-! ### the last c -/
theorem at_one {y : List Nat} {c i : Nat} : StrLaws.At (S y) (S [c]) (S y).length i ↔ y[i]? = some c := by
  unfold StrLaws.At Builtin.Str.subAt
  rw [S_len, S_len]
  constructor
  · rintro ⟨h1, h2⟩
    have e := congrArg Array.toList (eq_of_beq h2)
    simp only [Array.toList_extract] at e
    have e2 : (y.drop i).take 1 = [c] := by simpa [List.extract] using e
    have h3 : i < y.length := by simp at h1; omega
    have e3 := congrArg (fun l => l[0]?) e2
    simp at e3
    exact e3
  · intro h
    have h3 : i < y.length := (List.getElem?_eq_some_iff.mp h).1
    refine ⟨by simp; omega, ?_⟩
    apply beq_iff_eq.mpr
    apply Array.toList_inj.mp
    have e2 : (y.drop i).take 1 = [c] := by
      rw [List.drop_eq_getElem_cons h3]
      rw [List.getElem?_eq_getElem h3] at h
      simp [Option.some.inj h]
    simpa [List.extract] using e2
/-- .index: the first c -/
theorem index_first {p q : List Nat} {c : Nat} (h : c ∉ p) : gIndex (.str (S (p ++ c :: q))) [.str (S [c])] = some (.int p.length) := by
  show (match Builtin.Str.occurrences (S (p ++ c :: q)) (S [c]) 0 (S (p ++ c :: q)).length 1 with
    | k :: _ => some (D.int (k : Nat))
    | [] => none) = _
  rcases StrLaws.occ_head (S (p ++ c :: q)) (S [c]) 1 (Nat.le_refl _) with ⟨_, hn⟩ | ⟨i, r, e, h1, h2⟩
  · exact absurd (at_one.mpr (by simp)) (hn p.length)
  · rw [e]
    have h1' := at_one.mp h1
    have hp : (p ++ c :: q)[p.length]? = some c := by simp
    have e3 : i = p.length := by
      rcases Nat.lt_trichotomy i p.length with hlt | he | hgt
      · rw [List.getElem?_append_left hlt] at h1'
        exact absurd (List.mem_of_getElem? h1') h
      · exact he
      · exact absurd (at_one.mpr hp) (h2 p.length hgt)
    rw [e3]
/-- a list is cut at its last c -/
theorem last_cut {c : Nat} : ∀ {l : List Nat}, c ∈ l → ∃ b e, l = b ++ c :: e ∧ c ∉ e
  | x :: r, h => by
    by_cases hr : c ∈ r
    · obtain ⟨b, e, h1, h2⟩ := last_cut hr
      exact ⟨x :: b, e, by rw [h1]; rfl, h2⟩
    · rcases List.mem_cons.mp h with rfl | h
      · exact ⟨[], r, rfl, hr⟩
      · exact absurd h hr
theorem last_cut_eq {c : Nat} {b e b' e' : List Nat} (h : b ++ c :: e = b' ++ c :: e') (h1 : c ∉ e) (h2 : c ∉ e') : b = b' ∧ e = e' := by
  have hr := congrArg List.reverse h
  simp only [List.reverse_append, List.reverse_cons, List.append_assoc] at hr
  have key : ∀ (e e' b b' : List Nat), c ∉ e → c ∉ e' → e ++ ([c] ++ b) = e' ++ ([c] ++ b') → e = e' ∧ b = b' := by
    intro e
    induction e with
    | nil =>
      intro e' b b' _ h2 h
      cases e' with
      | nil => simp at h; exact ⟨rfl, h⟩
      | cons y r => simp at h; exact absurd (by rw [h.1]; exact List.mem_cons_self) h2
    | cons x r ih =>
      intro e' b b' h1 h2 h
      cases e' with
      | nil => simp at h; exact absurd (by rw [h.1]; exact List.mem_cons_self) h1
      | cons y r' =>
        simp only [List.cons_append, List.cons.injEq] at h
        obtain ⟨h3, h4⟩ := h
        have := ih r' b b' (fun z => h1 (List.mem_cons_of_mem _ z)) (fun z => h2 (List.mem_cons_of_mem _ z)) h4
        exact ⟨by rw [h3, this.1], this.2⟩
  obtain ⟨k1, k2⟩ := key e.reverse e'.reverse b.reverse b'.reverse (by simpa using h1) (by simpa using h2) hr
  exact ⟨List.reverse_inj.mp k2, List.reverse_inj.mp k1⟩
/-! ### split at one sign -/
theorem spl_all {c : Nat} {p : Nat → Bool} (l : List Nat) : (TL.spl [c] 0 [] l).all (fun r => r.all p) = l.all fun x => p x || decide (x = c) := by
  have key : ∀ (n : Nat) (l : List Nat), l.length ≤ n → (TL.spl [c] 0 [] l).all (fun r => r.all p) = l.all fun x => p x || decide (x = c) := by
    intro n
    induction n with
    | zero =>
      intro l h
      have : l = [] := List.length_eq_zero_iff.mp (by omega)
      subst this
      rfl
    | succ n ih =>
      intro l h
      by_cases hc : c ∈ l
      · obtain ⟨a, b, e, hn⟩ : ∃ a b, l = a ++ c :: b ∧ c ∉ a := List.append_of_mem hc |>.elim fun a ⟨b, e⟩ => by
          have : ∀ (l : List Nat), c ∈ l → ∃ a b, l = a ++ c :: b ∧ c ∉ a := fun l => by
            induction l with
            | nil => intro h; cases h
            | cons x r ih2 =>
              intro h
              by_cases hx : x = c
              · exact ⟨[], r, by rw [hx]; rfl, by simp⟩
              · rcases List.mem_cons.mp h with h | h
                · exact absurd h.symm hx
                · obtain ⟨a, b, e, hn⟩ := ih2 h
                  exact ⟨x :: a, b, by rw [e]; rfl, by simp [hn]; exact fun z => hx z.symm⟩
          exact this l hc
        subst e
        have e1 := TL.spl_part1 (S := []) (acc := []) (rest := b) hn
        have e2 : a ++ ([c] ++ b) = a ++ c :: b := rfl
        rw [e2] at e1
        rw [e1, List.all_cons, List.nil_append, ih b (by simp at h; omega), List.all_append, List.all_cons]
        have e3 : (a.all fun x => p x || decide (x = c)) = a.all p := by
          rw [Bool.eq_iff_iff, List.all_eq_true, List.all_eq_true]
          refine ⟨fun h x hx => ?_, fun h x hx => ?_⟩
          · have := h x hx
            have hne : x ≠ c := fun z => hn (z ▸ hx)
            simpa [hne] using this
          · rw [h x hx]; rfl
        rw [e3]
        simp
      · have e1 := TL.spl_last1 (S := []) (acc := []) hc
        rw [e1, List.nil_append, List.all_cons, List.all_nil, Bool.and_true]
        rw [Bool.eq_iff_iff, List.all_eq_true, List.all_eq_true]
        refine ⟨fun h x hx => ?_, fun h x hx => ?_⟩
        · rw [h x hx]; rfl
        · have := h x hx
          have hne : x ≠ c := fun z => hc (z ▸ hx)
          simpa [hne] using this
  exact key l.length l (Nat.le_refl _)
end DL

namespace DL
open PySem PySem.Spec PyProof.Rows L2

/-! ### an own exception's __init__ that says super().__init__('..') and keeps its one argument -/
def iPar (f : Str) (p1 p2 : Pos) : Arguments := { posonlyargs := [], args := [⟨"self", none, p1⟩, ⟨f, none, p2⟩], vararg := none, kwonlyargs := [], kw_defaults := [], kwarg := none, defaults := [] }
def iScope (f : Str) : Scope := { kind := .function, names := [("self", .local), (f, .local), ("__class__", .free), ("super", .globalImplicit)], isGenerator := false, isCoroutine := false, more := [] }
def iBody (m f : Str) (k : Nat) (q0 q1 q2 q3 q4 q5 q6 q7 q8 q9 : Pos) : List Stmt :=
  [.Expr (.Call (.Attribute (.Call (.Name "super" q0) [] [] q1) "__init__" q2) [.Constant (.str m) k q3] [] q4) q5, .Assign [.Attribute (.Name "self" q6) f q7] (.Name f q8) q9]
/-- what the written part tells of such a class -/
structure IniC (K : PySem.W.Frag) (C : Addr) (f : Str) : Prop where
  T : OexC K C
  sup : PySem.W.ks_superIn K C C "__init__" = some (some (.builtin "ValueError.__init__"))
  ve : PySem.W.subIn K (.ref C) (.type "ValueError") = some true
  fld : PySem.W.findIn K (.ref C) f = some none
/-- nothing of a third party is loaded: told by the object of the statics alone -/
def NoThird (h : Heap) : Prop := ∃ o, h.get? cStatics = some o ∧ PySem.W.nsIn [(cStatics, o)] cStatics "thirdparty.any" = some none
theorem NoThird.keeps {h h' : Heap} (t : NoThird h) (k : ∀ b o, h.get? b = some o → h'.get? b = some o) : NoThird h' := by
  obtain ⟨o, h1, h2⟩ := t
  exact ⟨o, k _ _ h1, h2⟩
theorem NoThird.looks {M : Model} {h : Heap} {C : Addr} (t : NoThird h) : PySem.W.Looks M h (opaqueClassAbove (.ref C)) none := by
  obtain ⟨o, h1, h2⟩ := t
  refine PySem.W.looks_opaque (K := [(cStatics, o)]) (fun b u z => ?_) h2
  by_cases hb : b = cStatics
  · subst hb
    rw [List.lookup_cons_self] at z
    cases z
    exact h1
  · have e : (b == cStatics) = false := by simpa using hb
    rw [List.lookup_cons, e] at z
    cases z
theorem NoThird.noSeq {o : Obj} (h : PySem.W.nsIn [(cStatics, o)] cStatics "thirdparty.any" = some none) : ∀ vs n, o.data ≠ .seq vs n := by
  intro vs n e
  obtain ⟨c, d, dt, sl⟩ := o
  dsimp only at e
  subst e
  unfold PySem.W.nsIn at h
  rw [List.lookup_cons_self] at h
  cases h
def thB (g : Addr → Option Obj) : Bool := match g cStatics with
  | some o => decide (PySem.W.nsIn [(cStatics, o)] cStatics "thirdparty.any" = some none)
  | none => false
theorem thB_ok {h : Heap} (e : thB h.get? = true) : NoThird h := by
  unfold thB at e
  split at e
  · rename_i o ho
    exact ⟨o, ho, of_decide_eq_true e⟩
  · cases e
section
variable {prog : Program} {w : World} {A : Around} {R : Result → Shared → Prop} {K : PySem.W.Frag} {mg : Str → Option Value} {base hp : Heap} {g : Array GenState} {d : Drawn} {t : Nat} {os : OsState}
variable {e C fI cc cda t0 : Addr} {v : Value} {args : Args} {m f qual file : Str} {k : Nat} {q0 q1 q2 q3 q4 q5 q6 q7 q8 q9 p1 p2 : Pos} {dV kV doc pm ct oc ccl cl : Value} {an od cdd cld : Option Addr} {osl ccs csl : Array (Option Value)} {vs : Array Value} {tf : Tok}
theorem mw_call {E : Value → Shared → Prop} {u : Addr} {rest : List Value} {Q : Value → Shared → Prop} {nm q : Str} {N : Addr} {bs bm : List Value} {hdct : Bool} {sn : List Str} {sub : List Value} {ab : Bool} {col : Option Bool} {dd : Option Addr} {k0 k1 k2 k3 k5 : Option Value}
    (hC : hp.get? C = some (excClassObj nm q C N bs bm hdct sn sub ab col dd k0 k1 k2 k3 k5 "ValueError.__new__")) (he : hp.get? e = some (PySem.HandSPX.excO C t0)) (hu : hp.get? u = some (PySem.W.kxs_mw "ValueError.__init__" e)) (hrest : rest.length ≤ sizeLine)
    (hq : ∀ h' t1, (∀ b o, b ≠ e → hp.get? b = some o → h'.get? b = some o) → h'.get? e = some (PySem.HandSPX.excO C t1) → Q .none ⟨h', g, d, t, os⟩) :
    wpAny (model prog w) A (call (.ref u) rest) Q E ⟨hp, g, d, t, os⟩ := by
  refine wpAny_call (codeAny_of_tree ?_)
  show wpAny _ A.in1 (callAny (.ref u) ⟨rest, []⟩) _ _ _
  simp only [callAny]
  refine wpAny_bind (wpAny_load hu ?_)
  have c1 : (Value.type "method-wrapper" == Value.type "method" || Value.type "method-wrapper" == Value.type "builtin_function_or_method" || Value.type "method-wrapper" == Value.type "method-wrapper") = true := by decide
  simp only [PySem.W.kxs_mw, c1, if_true]
  refine PySem.W.KFB.if_so (by decide) (wpAny_bind (PySem.ESX.check_bound F.excBase_ValueError hC he rfl (wpAny_bind (wpAny_pure (wpAny_pure ⟨Code.quiet_builtin _ (by decide +kernel), codeAny_builtin F.excBase_ValueError.initEntry ?_⟩)))))
  rw [Around.under_plainId F.excBase_ValueError.init.plain _]
  exact PySem.W.exc_init_tree (cls := .ref C) (t0 := t0) (dv := none) (c2 := .none) (c3 := .none) (b4 := .bool false) he hrest fun h' h1 h2 _ => hq h' _ h1 h2
theorem mc_eq {o : Expr} {name : Str} {apos pos : Pos} {env : Env} {ov : Value} {n : Nat} {ar : List (Bool × Sem Value)} (h1 : methodCallForm n ar [] = true) (h2 : (apos.endLine == pos.line) = true) :
    methodCall o name apos pos env ov n ar [] = (do
      let (f, first) ← holding [ov] (getMethod ov name (do return (← importBound o env).getD true))
      callWith pos f first ar []) := by
  unfold methodCall calleeOf methodCallPos
  rw [h1, h2]
  rfl
theorem mc_eval {o : Expr} {name : Str} {apos pos : Pos} {env : Env} {ar : List Expr} (h1 : methodCallForm (ar.length + 0) (backTo pos (starEach ar env)) [] = true) (h2 : (apos.endLine == pos.line) = true) :
    eval (.Call (.Attribute o name apos) ar [] pos) env = (do
      let ov ← attributeBase o name env (eval o env)
      standAt apos.atName
      let (f, first) ← holding [ov] (getMethod ov name (do return (← importBound o env).getD true))
      callWith pos f first (backTo pos (starEach ar env)) []) := by
  show (attributeBase o name env (eval o env) >>= fun ov => standAt apos.atName >>= fun _ => methodCall o name apos pos env ov (ar.length + 0) (backTo pos (starEach ar env)) []) = _
  exact congrArg (attributeBase o name env (eval o env) >>= ·) (funext fun ov => congrArg (standAt apos.atName >>= ·) (funext fun _ => mc_eq h1 h2))
theorem ini_run (M : Mod K mg base) (hb : ∀ b o, base.get? b = some o → hp.get? b = some o) (nt : NoThird base) (hroom : A.depth < recursionLimit) (IC : IniC K C f)
    (lk : K.lookup fI = some ⟨oc, od, .func (PySem.W.ksFn "__init__" qual (iPar f p1 p2) (iBody m f k q0 q1 q2 q3 q4 q5 q6 q7 q8 q9) (iScope f) dV kV doc pm an (.ref cda) ct cc), osl⟩)
    (hcd : PySem.W.codeIn K (.ref cda) qual = true) (hcode : K.lookup cda = some ⟨ccl, cdd, .fields vs, ccs⟩) (hvs : vs[2]? = some (.str file tf)) (hfile : ((prog.main.file : Str) == file) = true) (hcell : K.lookup cc = some ⟨cl, cld, .cell (some (.ref C)), csl⟩)
    (htop : (prog.main.scope.names.lookup ("super" : Str)).isSome = false) (hm : mg "super" = none) (hf2 : (("self" : Str) == f) = false) (hfd : (f == ("__debug__" : Str)) = false)
    (kk : (iScope f).names.lookup ("super" : Str) = some .globalImplicit) (kc : (iScope f).names.lookup ("__class__" : Str) = some .free) (kf : (iScope f).names.lookup f = some .local)
    (hbind : BindsTo ⟨hp, g, d, t, os⟩ (PySem.W.ksFn "__init__" qual (iPar f p1 p2) (iBody m f k q0 q1 q2 q3 q4 q5 q6 q7 q8 q9) (iScope f) dV kV doc pm an (.ref cda) ct cc) args [("self", .ref e), (f, v)]) (he : hp.get? e = some (PySem.HandSPX.excO C t0)) (hne : base.get? e = none)
    (hpos : (q2.endLine == q4.line) = true) (hl : swapsWith (.Name f q8) (some (.Attribute (.Name "self" q6) f q7)) q9.line (PySem.callEnv (PySem.W.ksFn "__init__" qual (iPar f p1 p2) (iBody m f k q0 q1 q2 q3 q4 q5 q6 q7 q8 q9) (iScope f) dV kV doc pm an (.ref cda) ct cc) hp.objs.size fI) = pure false)
    (hq : ∀ h' dx tk' t1, (∀ b o, b ≠ e → hp.get? b = some o → h'.get? b = some o) → hp.objs.size ≤ dx → h'.get? e = some ({ cls := .ref C, dict := some dx, data := .fields #[.ref t1, .none, .none, .none, .bool false, .none] } : Obj) → h'.Ns1 dx (fun y => if y = f then some v else none) → R (.ok (.ret .none)) ⟨h', g, d, tk', os⟩) :
    codeAny (model prog w) A (.call (.ref fI) args) R ⟨hp, g, d, t, os⟩ := by
  have kin : K.In hp := M.kin.keeps hb
  have ks : (iScope f).names.lookup ("self" : Str) = some .local := by
    show (("self", NameKind.local) :: _ : List (Str × NameKind)).lookup ("self" : Str) = _
    rw [List.lookup_cons_self]
  obtain ⟨nm, q, N, bs, bm, sn, sub, ab, col, dd, k0, k1, k2, k3, k5, hC, hbm⟩ := IC.T.cls
  have hcl : PySem.W.clsIn K C = some { name := nm, bases := bs, mro := .ref C :: bm, ns := N, qualname := q, hasDict := true, slotNames := sn, subclasses := sub, abstract := ab, collection := col, hasDel := false } := by unfold PySem.W.clsIn; rw [hC] <;> rfl
  refine PySem.ks_codeAny_call_defAt (body := iBody m f k q0 q1 q2 q3 q4 q5 q6 q7 q8 q9) (binds := [("self", .ref e), (f, v)]) hroom (kin _ _ lk) rfl (M.nolimit.keeps hb) (PySem.W.codeRec_of kin hcd) rfl hbind ?_ ?_ (fun h1 hns hk1 => ?_) rfl rfl rfl
  · intro x hx
    simp only [iScope, PySem.W.ksFn, List.mem_cons, List.not_mem_nil, or_false] at hx
    rcases hx with rfl | rfl | rfl | rfl <;> exact fun z => nomatch z
  · intro x hx
    simp only [List.mem_cons, List.not_mem_nil, or_false] at hx
    rcases hx with rfl | rfl
    · exact ks
    · exact kf
  have kin1 : K.In h1 := kin.keeps hk1
  have hb1 : ∀ b o, base.get? b = some o → h1.get? b = some o := fun b o z => hk1 b o (hb b o z)
  have he1 := hk1 _ _ he
  have hC1 := kin1 _ _ hC
  have I1 : PySem.W.InstAt h1 e (PySem.HandSPX.excO C t0) C none := ⟨he1, rfl, rfl, trivial⟩
  obtain ⟨mb, hmb1, hmb2⟩ := M.blt
  show PySem.wpAt _ _ _ (execs (_ :: _ :: []) _) _ _ _
  refine PySem.ks_wpAt_execs_cons (PySem.ks_wpAt_Expr_any (PySem.ks_wpAt_MethodCall ?_ (mc_eval rfl hpos)))
  refine PySem.ks_wpAt_super_base kk kc (by decide) rfl (kin1 _ _ lk) rfl rfl rfl (kin1 _ _ hcode) rfl hvs hfile htop ?_
  refine PySem.W.ks_loadName_global rfl kk (Calls.loadGlobal_builtin (M.glob.keeps hb1) hm (hmb1.keeps hb1) ((hmb2 _ (by decide)).trans (by decide +kernel)) ⟨rfl, ?_⟩)
  refine wpAny_loadName_free rfl kc rfl ⟨_, kin1 _ _ hcell, rfl⟩ ?_
  have lself : ([("self", Value.ref e), (f, v)] : List (Str × Value)).reverse.lookup ("self" : Str) = some (.ref e) := by
    show ([(f, v), ("self", Value.ref e)] : List (Str × Value)).lookup ("self" : Str) = _
    rw [List.lookup_cons, hf2]
    exact List.lookup_cons_self
  have lf : ([("self", Value.ref e), (f, v)] : List (Str × Value)).reverse.lookup f = some v := by
    show ([(f, v), ("self", Value.ref e)] : List (Str × Value)).lookup f = _
    exact List.lookup_cons_self
  refine wpAny_loadName_local (v := .ref e) rfl ks hns lself ?_
  refine PySem.ks_wpAny_isType_cls hC1 rfl ⟨rfl, ?_⟩
  refine PySem.ks_wpAny_call_super hC1 rfl he1 rfl (fun c z => nomatch z) (PySem.W.looks_mroIn kin1 ?_) (fun h2 e2 k2 => ?_)
  · unfold PySem.W.mroIn
    rw [hcl]
    show (if (Value.ref C :: bm).isEmpty = true then none else some ((Value.ref C :: bm).contains (.ref C))) = some true
    rw [if_neg (fun z => nomatch z)]
    simp
  have kin2 : K.In h2 := kin1.keeps k2
  have he2 := k2 _ _ he1
  refine PySem.W.kxs_getMethod PySem.W.kxs_ValueError e2 (nt.keeps fun b o z => k2 b o (hb1 b o z)).looks (l₀ := .ref C :: bm) (fun A Q E s k q => wpAny_bind ((PySem.W.looks_clsIn kin2 hcl) A _ E s k (wpAny_pure q))) rfl kin2 ?_ ?_ (PySem.W.ks_ne kin1 I1 hcl) rfl ?_
  · have z := IC.sup
    unfold PySem.W.ks_superIn at z
    rw [hcl] at z
    exact z
  · exact (show PySem.W.InstAt h2 e (PySem.HandSPX.excO C t0) C none from ⟨he2, rfl, rfl, trivial⟩).type.andThen (PySem.W.looks_subIn kin2 IC.ve)
  -- the wrapper is called
  have he3 : (h2.push (PySem.W.kxs_mw "ValueError.__init__" e)).get? e = some (PySem.HandSPX.excO C t0) := Heap.get?_push_of_some _ he2
  have hu3 : (h2.push (PySem.W.kxs_mw "ValueError.__init__" e)).get? h2.objs.size = some (PySem.W.kxs_mw "ValueError.__init__" e) := Heap.get?_push_at rfl rfl
  have hC3 := Heap.get?_push_of_some (PySem.W.kxs_mw "ValueError.__init__" e) (kin2 _ _ hC)
  show wpAny _ _ (callWith q4 (.ref h2.objs.size) [] ((false, eval (.Constant (.str m) k q3) _) :: []) []) _ _ _
  refine PySem.W.kxs_callWith (i := "ValueError.__init__") (x := e) rfl (Calls.evalArgs_plain (Calls.spliced_cons (Calls.Constant_str (Calls.spliced_nil ⟨hu3, ?_⟩))))
  refine mw_call hC3 he3 hu3 (by show 1 ≤ sizeLine; rw [sizeLine_eq]; omega) fun h4 t1 k4 he4 => ?_
  -- self.f = f
  have up4 : ∀ b o, b ≠ e → h1.get? b = some o → h4.get? b = some o := fun b o hb z => k4 b o hb (Heap.get?_push_of_some _ (k2 b o z))
  have hLe : hp.objs.size ≠ e := Nat.ne_of_gt (Heap.lt_size he)
  have hns4 := hns.at (h' := h4) fun o q => up4 _ _ hLe q
  have kin4 : K.In h4 := fun b o z => up4 b o (fun q => by rw [q] at z; have y := M.kin _ _ z; rw [hne] at y; cases y) (kin1 _ _ z)
  refine PySem.ks_wpAt_execs_cons (PySem.wpAt_of_wpAny (plainObj_wpAny_Assign_Attribute (wpAny_Name (wpAny_loadName_local rfl kf hns4 lf ?_) hfd) hl))
  refine wpAny_Name (wpAny_loadName_local rfl ks hns4 lself ?_) (by decide)
  refine PySem.W.set_plain kin4 (ox := PySem.HandSPX.excO C t1) (od := none) ⟨he4, rfl, rfl, trivial⟩ IC.T.sa ?_
  refine PySem.HandSPX.exc_osa kin4 he4 hcl (show PySem.HandSPX.refsVE (.ref C :: bm) = true from hbm) rfl IC.fld (fun h' tk' dx k' dn dne hx hn => ?_)
  refine PySem.wpAt_of_wpAny (wpAny_execs_nil ?_)
  refine hq h' dx tk' t1 (fun b o hb z => k' b o hb (up4 b o hb (hk1 b o z))) ?_ hx hn
  obtain ⟨oL, _, _, hL, _⟩ := hns4
  exact Nat.le_trans (Nat.le_of_lt (Heap.lt_size hL)) dn
end
end DL

namespace DL
open PySem PySem.Spec L2
section
variable {prog : Program} {w : World} {A : Around} {E : Value → Shared → Prop} {R : Result → Shared → Prop} {h : Heap} {g : Array GenState} {d : Drawn} {t : Nat} {os : OsState}
variable {nm q : Str} {C N : Addr} {bs bm bmB : List Value} {hdct : Bool} {sn : List Str} {sub : List Value} {ab : Bool} {col : Option Bool} {dd : Option Addr} {k0 k1 k2 k3 k5 : Option Value} {B newId initId : String}
theorem check_new_kw {M : Model} (F : ExcBaseFacts B newId initId bmB) (same : ∀ Y : String, bm.contains (.type Y) = bmB.contains (.type Y)) {rest : List Value} {kw : List (Str × Value)} {Q : Unit → Shared → Prop}
    (hC : h.get? C = some (excClassObj nm q C N bs bm hdct sn sub ab col dd k0 k1 k2 k3 k5 newId)) (hq : Q () ⟨h, g, d, t, os⟩) : wpAny M A (checkBuiltinCall newId ⟨.ref C :: rest, kw⟩) Q E ⟨h, g, d, t, os⟩ := by
  have within : (Value.ref C :: bm).contains (.type B) = true := by rw [List.contains_cons, same, F.hasB]; exact Bool.or_true _
  have star := F.noStar
  simp only [checkBuiltinCall, F.newKind, F.newSplit, F.newRow]
  repeat (first | refine wpAny_loadPart_at hC ?_ | (refine wpAny_isSubtype_exc hC ?_; rw [within]) | refine wpAny_staticBase_exc hC ?_ | refine wpAny_madeBy_exc hC ?_ | (simp only [bne_self_eq_false, Bool.false_eq_true, if_false]) | wp_step)
  exact hq
theorem new_kw (F : ExcBaseFacts B newId initId bmB) (same : ∀ Y : String, bm.contains (.type Y) = bmB.contains (.type Y)) {rest : List Value} {kw : List (Str × Value)}
    (hC : h.get? C = some (excClassObj nm q C N bs bm hdct sn sub ab col dd k0 k1 k2 k3 k5 newId))
    (hq : R (.ok (.ret (.ref (h.objs.size + 1)))) ⟨(h.push (PySem.W.kdv_tup rest)).push (PySem.HandSPX.excO C h.objs.size), g, d, t, os⟩) (hrest : rest.length ≤ sizeLine) :
    codeAny (model prog w) A (.builtin newId ⟨.ref C :: rest, kw⟩) R ⟨h, g, d, t, os⟩ := by
  have hends := F.ends
  have inB : (Value.ref C :: bm).contains (.type B) = true := by rw [List.contains_cons, same, F.hasB]; exact Bool.or_true _
  have inA : (Value.ref C :: bm).contains (.type "AttributeError") = false := by rw [List.contains_cons, same, F.noAttr]; rfl
  have inN : (Value.ref C :: bm).contains (.type "NameError") = false := by rw [List.contains_cons, same, F.noName]; rfl
  refine codeAny_builtinAt F.entry ?_
  unfold Builtin.«BaseException.__new__»
  refine wpAt_bind ?_
  show wpAt _ _ _ (stack >>= _) _ _ _
  refine wpAt_bind (wpAt_stack fun pp lower => wpAt_of_wpAny ?_)
  wp_walk
  refine wpAt_of_wpAny ?_
  rw [F.owner]
  repeat (first | with_reducible refine wpAny_madeHere_exc F.canon hC ?_ | with_reducible refine wpAny_loadPart_at hC ?_ | (with_reducible refine wpAny_isSubtype_exc hC ?_; first | rw [inB] | rw [inA] | rw [inN]) | wp_step)
  show R _ _
  rw [Heap.size_push]
  exact hq
theorem type_call_kw (F : ExcBaseFacts B newId initId bmB) (same : ∀ Y : String, bm.contains (.type Y) = bmB.contains (.type Y)) {rest : List Value} {kw : List (Str × Value)} {fI : Addr} {Q : Fin → Shared → Prop}
    (hC : h.get? C = some (excClassObj nm q C N bs bm hdct sn sub ab col dd k0 k1 k2 k3 k5 newId))
    (hi : PySem.W.Looks (model prog w) h (typeLookup (.ref C) "__init__") (some (.ref fI))) (hb : ∀ self, PySem.W.Looks (model prog w) h (bindSpecial (.ref fI) self) (.ref fI, [self])) (hrest : rest.length ≤ sizeLine)
    (hq : codeAny (model prog w) A (.call (.ref fI) ⟨.ref (h.objs.size + 1) :: rest, kw⟩)
      (fun r s' => match r with | .ok (.ret v) => v = .none ∧ Q (.done (.ret (.ref (h.objs.size + 1)))) s' | .ok _ => False | .error e => E e s')
      ⟨(h.push (PySem.W.kdv_tup rest)).push (PySem.HandSPX.excO C h.objs.size), g, d, t, os⟩) :
    wpAny (model prog w) A (Builtin.«type.__call__» ⟨.ref C :: rest, kw⟩) Q E ⟨h, g, d, t, os⟩ := by
  repeat (first | with_reducible refine wpAny_loadPart_at hC ?_ | with_reducible refine wpAny_madeBy_exc hC ?_ | wp_step)
  refine codeAny_call_builtin_code (Code.quiet_builtin _ F.quiet) (check_new_kw F same hC (new_kw F same hC ?_ hrest))
  show wpAny _ _ _ _ _ _
  have kk : ∀ b o, h.get? b = some o → ((h.push (PySem.W.kdv_tup rest)).push (PySem.HandSPX.excO C h.objs.size)).get? b = some o := fun b o e => Heap.get?_push_of_some _ (Heap.get?_push_of_some _ e)
  have hC₁ := kk _ _ hC
  have here : ((h.push (PySem.W.kdv_tup rest)).push (PySem.HandSPX.excO C h.objs.size)).get? (h.objs.size + 1) = some (PySem.HandSPX.excO C h.objs.size) := by heap_get
  have own : (Value.ref C :: bm).contains (.ref C) = true := by simp
  have i1 := hi.keeps kk
  have b1 := (hb (.ref (h.objs.size + 1))).keeps kk
  unfold isInstance
  repeat (first | with_reducible refine wpAny_loadPart_at here ?_ | (with_reducible refine wpAny_isSubtype_exc hC₁ ?_; rw [own]) | wp_step)
  show wpAny _ _ (typeLookup (.ref C) _) _ _ _
  refine i1.at (wpAny_holding (wpAny_bind (b1.at (wpAny_bind (wpAny_call (codeAny_mono hq fun r s' z => ?_))))))
  rcases r with e | (v | _ | _ | _)
  all_goals try (first | exact z | exact False.elim z)
  obtain ⟨rfl, z⟩ := z
  first
    | exact wpAny_pure (wpAny_pure z)
    | (wp_walk; exact z)
theorem check_type_kw {M : Model} {rest : List Value} {kw : List (Str × Value)} {Q : Unit → Shared → Prop} (hC : h.get? C = some (excClassObj nm q C N bs bm hdct sn sub ab col dd k0 k1 k2 k3 k5 newId))
    (hq : Q () ⟨h, g, d, t, os⟩) : wpAny M A (checkBuiltinCall "type.__call__" ⟨.ref C :: rest, kw⟩) Q E ⟨h, g, d, t, os⟩ := by
  have f3 := tc_sub
  have isT : (⟨h, g, d, t, os⟩ : Shared).TypeIs (.ref C) "type" := ⟨_, hC, rfl⟩
  simp only [checkBuiltinCall, tc_kind, tc_split]
  repeat (any_goals (first | assumption | with_reducible refine wpAny_loadPart_at hC ?_ | with_reducible refine wpAny_onRaise ?_ | with_reducible refine wpAny_map ?_ | wp_step))
theorem call_kw (F : ExcBaseFacts B newId initId bmB) (same : ∀ Y : String, bm.contains (.type Y) = bmB.contains (.type Y)) {rest : List Value} {kw : List (Str × Value)} {fI : Addr}
    (hC : h.get? C = some (excClassObj nm q C N bs bm hdct sn sub ab col dd k0 k1 k2 k3 k5 newId))
    (hi : PySem.W.Looks (model prog w) h (typeLookup (.ref C) "__init__") (some (.ref fI))) (hb : ∀ self, PySem.W.Looks (model prog w) h (bindSpecial (.ref fI) self) (.ref fI, [self])) (hrest : rest.length ≤ sizeLine)
    (hq : codeAny (model prog w) (A.under (.builtin "type.__call__" ⟨.ref C :: rest, kw⟩)) (.call (.ref fI) ⟨.ref (h.objs.size + 1) :: rest, kw⟩) (PySem.W.InitBack (h.objs.size + 1) R)
      ⟨(h.push (PySem.W.kdv_tup rest)).push (PySem.HandSPX.excO C h.objs.size), g, d, t, os⟩) :
    codeAny (model prog w) A (.call (.ref C) ⟨rest, kw⟩) R ⟨h, g, d, t, os⟩ := by
  have f1 := tc_lookup
  have f2 := tc_bind (.ref C)
  have isT : (⟨h, g, d, t, os⟩ : Shared).TypeIs (.ref C) "type" := ⟨_, hC, rfl⟩
  refine codeAny_of_tree ?_
  show wpAny _ _ (callAny (.ref C) _) _ _ _
  repeat (any_goals (first | assumption | with_reducible refine wpAny_loadPart_at hC ?_ | wp_step))
  refine ⟨rfl, codeAny_call_builtin_at (Code.quiet_builtin _ (by decide +kernel)) entry_typeCall (check_type_kw hC (type_call_kw F same hC hi hb hrest (codeAny_mono hq fun r s' z => ?_)))⟩
  rcases r with e | (v | _ | _ | _) <;> exact z
end
end DL

namespace DL
open PySem PySem.Spec PyProof.Rows L2
/-! ### the written part's word of such a class, asked by a program -/
structure FOk (f : Str) : Prop where
  kk : (iScope f).names.lookup ("super" : Str) = some .globalImplicit
  kc : (iScope f).names.lookup ("__class__" : Str) = some .free
  kf : (iScope f).names.lookup f = some .local
  h2 : (("self" : Str) == f) = false
  hd : (f == ("__debug__" : Str)) = false
  bd : ∀ (qual : Str) (p1 p2 : Pos) (body : List Stmt) (doc pm cdv ct : Value) (an : Option Addr) (cc : Addr) (e u : Value), bindArgs (PySem.W.ksFn "__init__" qual (iPar f p1 p2) body (iScope f) .none .none doc pm an cdv ct cc) ⟨[e, u], []⟩ = pure ([("self", e), (f, u)] : List (Str × Value))
  bk : ∀ (qual : Str) (p1 p2 : Pos) (body : List Stmt) (doc pm cdv ct : Value) (an : Option Addr) (cc : Addr) (e u : Value), bindArgs (PySem.W.ksFn "__init__" qual (iPar f p1 p2) body (iScope f) .none .none doc pm an cdv ct cc) ⟨[e], [(f, u)]⟩ = pure ([("self", e), (f, u)] : List (Str × Value))
theorem fok_number : FOk "number" := ⟨by decide +kernel, by decide +kernel, by decide +kernel, by decide +kernel, by decide +kernel, fun _ _ _ _ _ _ _ _ _ _ _ _ => rfl, fun _ _ _ _ _ _ _ _ _ _ _ _ => rfl⟩
theorem fok_fault : FOk "fault" := ⟨by decide +kernel, by decide +kernel, by decide +kernel, by decide +kernel, by decide +kernel, fun _ _ _ _ _ _ _ _ _ _ _ _ => rfl, fun _ _ _ _ _ _ _ _ _ _ _ _ => rfl⟩
theorem fok_at : FOk "at" := ⟨by decide +kernel, by decide +kernel, by decide +kernel, by decide +kernel, by decide +kernel, fun _ _ _ _ _ _ _ _ _ _ _ _ => rfl, fun _ _ _ _ _ _ _ _ _ _ _ _ => rfl⟩
theorem fok_word : FOk "word" := ⟨by decide +kernel, by decide +kernel, by decide +kernel, by decide +kernel, by decide +kernel, fun _ _ _ _ _ _ _ _ _ _ _ _ => rfl, fun _ _ _ _ _ _ _ _ _ _ _ _ => rfl⟩
theorem fok_parts : FOk "parts" := ⟨by decide +kernel, by decide +kernel, by decide +kernel, by decide +kernel, by decide +kernel, fun _ _ _ _ _ _ _ _ _ _ _ _ => rfl, fun _ _ _ _ _ _ _ _ _ _ _ _ => rfl⟩

def bodyB (f : Str) : List Stmt → Bool
  | [.Expr (.Call (.Attribute (.Call (.Name s0 _) [] [] _) i0 q2) [.Constant (.str _) _ _] [] q4) _, .Assign [.Attribute (.Name s6 _) f7 _] (.Name f8 _) _] =>
    decide (s0 = "super") && (decide (i0 = "__init__") && (decide (s6 = "self") && (decide (f7 = f) && (decide (f8 = f) && (q2.endLine == q4.line)))))
  | _ => false
theorem bodyB_ok {f : Str} {l : List Stmt} (h : bodyB f l = true) : ∃ m k q0 q1 q2 q3 q4 q5 q6 q7 q8 q9, l = iBody m f k q0 q1 q2 q3 q4 q5 q6 q7 q8 q9 ∧ (q2.endLine == q4.line) = true := by
  unfold bodyB at h
  split at h
  · simp only [Bool.and_eq_true, decide_eq_true_eq] at h
    obtain ⟨rfl, rfl, rfl, rfl, rfl, e⟩ := h
    exact ⟨_, _, _, _, _, _, _, _, _, _, _, _, rfl, e⟩
  · cases h
def parB (f : Str) : Arguments → Bool
  | ⟨[], [⟨a1, none, _⟩, ⟨a2, none, _⟩], none, [], [], none, []⟩ => decide (a1 = "self") && decide (a2 = f)
  | _ => false
theorem parB_ok {f : Str} {p : Arguments} (h : parB f p = true) : ∃ p1 p2, p = iPar f p1 p2 := by
  unfold parB at h
  split at h
  · simp only [Bool.and_eq_true, decide_eq_true_eq] at h
    obtain ⟨rfl, rfl⟩ := h
    exact ⟨_, _, rfl⟩
  · cases h
def isNoneV : Value → Bool
  | .none => true
  | _ => false
theorem isNoneV_ok {v : Value} (h : isNoneV v = true) : v = .none := by
  unfold isNoneV at h
  split at h
  · rfl
  · cases h
def clsOne : List (Str × Addr) → Option Addr
  | [(n, c)] => if n = "__class__" then some c else none
  | _ => none
theorem clsOne_ok {l : List (Str × Addr)} {c : Addr} (h : clsOne l = some c) : l = ([("__class__", c)] : List (Str × Addr)) := by
  unfold clsOne at h
  split at h
  · split at h
    · rename_i e
      cases h
      rw [e]
    · cases h
  · cases h
def fdB (f : Str) (fd : FuncData) : Bool := decide (fd.name = "__init__") && (parB f fd.params && ((match fd.body with | .stmts l => bodyB f l | _ => false) && (decide (fd.scope = iScope f) && (decide (fd.globals = mainGlobals) && (decide (fd.builtins = builtinsNs) && (isNoneV fd.defaults && isNoneV fd.kwdefaults))))))
theorem fdB_ok {f : Str} {fd : FuncData} {cc : Addr} (h : fdB f fd = true) (hc : clsOne fd.closure = some cc) : ∃ p1 p2 m k q0 q1 q2 q3 q4 q5 q6 q7 q8 q9, (q2.endLine == q4.line) = true ∧ fd = PySem.W.ksFn "__init__" fd.qualname (iPar f p1 p2) (iBody m f k q0 q1 q2 q3 q4 q5 q6 q7 q8 q9) (iScope f) .none .none fd.doc fd.pyModule fd.annotations fd.code fd.closureTuple cc := by
  unfold fdB at h
  simp only [Bool.and_eq_true, decide_eq_true_eq] at h
  obtain ⟨h1, h2, h3, h4, h5, h6, h7, h8⟩ := h
  obtain ⟨p1, p2, e2⟩ := parB_ok h2
  obtain ⟨name, qual, params, body, scope, gl, clo, dV, kV, doc, pm, an, cd, ct, bi⟩ := fd
  dsimp only at *
  cases body with
  | stmts l =>
    obtain ⟨m, k, q0, q1, q2, q3, q4, q5, q6, q7, q8, q9, e3, e4⟩ := bodyB_ok h3
    refine ⟨p1, p2, m, k, q0, q1, q2, q3, q4, q5, q6, q7, q8, q9, e4, ?_⟩
    rw [h1, e2, e3, h4, h5, h6, isNoneV_ok h7, isNoneV_ok h8, clsOne_ok hc]
  | _ => cases h3
/-- C's mro: itself, own classes, then the built-in ones -/
def clsB (K : PySem.W.Frag) (C : Addr) : Bool := match K.lookup C with
  | some ⟨.type "type", _, .cls cd, sl⟩ => (match cd.mro with
    | .ref C' :: bm => decide (C' = C) && (PySem.HandSPX.refsVE bm && (cd.hasDict && (!cd.hasDel && (match sl.toList with | [_, _, _, _, some (.builtin "ValueError.__new__"), _] => true | _ => false))))
    | _ => false)
  | _ => false
theorem clsB_ok {K : PySem.W.Frag} {C : Addr} (h : clsB K C = true) : ∃ nm q N bs bm sn sub ab col dd k0 k1 k2 k3 k5, K.lookup C = some (excClassObj nm q C N bs bm true sn sub ab col dd k0 k1 k2 k3 k5 "ValueError.__new__") ∧ PySem.HandSPX.refsVE bm = true := by
  unfold clsB at h
  split at h
  · rename_i dd cd sl ho
    split at h
    · rename_i C' bm hm
      simp only [Bool.and_eq_true, decide_eq_true_eq, Bool.not_eq_true'] at h
      obtain ⟨rfl, h1, h2, h3, h4⟩ := h
      split at h4
      · rename_i k0 k1 k2 k3 k5 hs
        obtain ⟨nm, bs, mro, ns, qn, hd, sn, sub, ab, col, del⟩ := cd
        dsimp only at hm h2 h3
        subst hm h2 h3
        have hsl : sl = #[k0, k1, k2, k3, some (.builtin "ValueError.__new__"), k5] := by
          obtain ⟨l⟩ := sl
          simp only at hs
          rw [hs]
        subst hsl
        exact ⟨nm, qn, ns, bs, bm, sn, sub, ab, col, dd, k0, k1, k2, k3, k5, ho, h1⟩
      · cases h4
    · cases h
  · cases h
end DL

namespace DL
open PySem PySem.Spec PyProof.Rows L2
def v2B (P : Program) (vs : Array Value) : Bool := match vs[(2 : Nat)]? with
  | some (.str file _) => (P.main.file : Str) == file
  | _ => false
def codeB (P : Program) (K : PySem.W.Frag) : Value → Bool
  | .ref c => (match K.lookup c with
    | some ⟨_, _, .fields vs, _⟩ => v2B P vs
    | _ => false)
  | _ => false
def cellB (K : PySem.W.Frag) (C : Addr) : Option Addr → Bool
  | some cc => (match K.lookup cc with
    | some ⟨_, _, .cell (some (.ref D)), _⟩ => decide (D = C)
    | _ => false)
  | none => false
def fnB (P : Program) (K : PySem.W.Frag) (C : Addr) (f : Str) (fI : Addr) : Bool := match K.lookup fI with
  | some ⟨_, _, .func fd, _⟩ => fdB f fd && (PySem.W.codeIn K fd.code fd.qualname && (codeB P K fd.code && cellB K C (clsOne fd.closure)))
  | _ => false
def iniB (P : Program) (K : PySem.W.Frag) (x f : Str) : Bool :=
  clsB K (He.ga K x) && (He.eqO (PySem.W.findIn K (.ref (He.ga K x)) "__setattr__") (some (some (.builtin "object.__setattr__"))) && (decide (PySem.W.subIn K (.ref (He.ga K x)) (.type "BaseException") = some true) && (decide (PySem.W.typeIn K (.ref (He.ga K x)) = some (.type "type")) &&
  (PySem.W.keepIn K (.ref (He.ga K x)) && (He.eqO (PySem.W.ks_superIn K (He.ga K x) (He.ga K x) "__init__") (some (some (.builtin "ValueError.__init__"))) && (decide (PySem.W.subIn K (.ref (He.ga K x)) (.type "ValueError") = some true) &&
  (He.eqO (PySem.W.findIn K (.ref (He.ga K x)) f) (some none) && (match PySem.W.findIn K (.ref (He.ga K x)) "__init__" with
    | some (some (.ref fI)) => decide (PySem.W.typeIn K (.ref fI) = some (.type "function")) && fnB P K (He.ga K x) f fI
    | _ => false))))))))
structure IniF (P : Program) (K : PySem.W.Frag) (C : Addr) (f : Str) : Prop where
  ic : IniC K C f
  ex : ∃ fI oc od osl qual m k p1 p2 q0 q1 q2 q3 q4 q5 q6 q7 q8 q9 doc pm an cda ct cc ccl cdd vs ccs file tf cl cld csl, PySem.W.findIn K (.ref C) "__init__" = some (some (.ref fI)) ∧ PySem.W.typeIn K (.ref fI) = some (.type "function") ∧
    K.lookup fI = some ⟨oc, od, .func (PySem.W.ksFn "__init__" qual (iPar f p1 p2) (iBody m f k q0 q1 q2 q3 q4 q5 q6 q7 q8 q9) (iScope f) .none .none doc pm an (.ref cda) ct cc), osl⟩ ∧ PySem.W.codeIn K (.ref cda) qual = true ∧
    K.lookup cda = some ⟨ccl, cdd, .fields vs, ccs⟩ ∧ vs[2]? = some (.str file tf) ∧ ((P.main.file : Str) == file) = true ∧ K.lookup cc = some ⟨cl, cld, .cell (some (.ref C)), csl⟩ ∧ (q2.endLine == q4.line) = true
theorem codeB_ok {P : Program} {K : PySem.W.Frag} {v : Value} (h : codeB P K v = true) : ∃ cda ccl cdd vs ccs file tf, v = .ref cda ∧ K.lookup cda = some ⟨ccl, cdd, .fields vs, ccs⟩ ∧ vs[2]? = some (.str file tf) ∧ ((P.main.file : Str) == file) = true := by
  unfold codeB at h
  split at h
  · split at h
    · rename_i hk
      unfold v2B at h
      split at h
      · rename_i hv
        exact ⟨_, _, _, _, _, _, _, rfl, hk, hv, h⟩
      · cases h
    · cases h
  · cases h
theorem cellB_ok {K : PySem.W.Frag} {C : Addr} {o : Option Addr} (h : cellB K C o = true) : ∃ cc cl cld csl, o = some cc ∧ K.lookup cc = some ⟨cl, cld, .cell (some (.ref C)), csl⟩ := by
  unfold cellB at h
  split at h
  · split at h
    · rename_i hk
      have e := of_decide_eq_true h
      subst e
      exact ⟨_, _, _, _, rfl, hk⟩
    · cases h
  · cases h
theorem iniB_ok {P : Program} {K : PySem.W.Frag} {x f : Str} (h : iniB P K x f = true) : IniF P K (He.ga K x) f := by
  unfold iniB at h
  simp only [Bool.and_eq_true, decide_eq_true_eq] at h
  obtain ⟨h1, h2, h3, h4, h5, h6, h8, h9, h10⟩ := h
  refine ⟨⟨⟨clsB_ok h1, He.eqO_ok h2, h3, h4, h5⟩, He.eqO_ok h6, h8, He.eqO_ok h9⟩, ?_⟩
  split at h10
  · rename_i fI hf
    simp only [Bool.and_eq_true, decide_eq_true_eq] at h10
    obtain ⟨t1, t2⟩ := h10
    unfold fnB at t2
    split at t2
    · rename_i oc od fd osl hk
      simp only [Bool.and_eq_true] at t2
      obtain ⟨g1, g2, g3, g4⟩ := t2
      obtain ⟨cda, ccl, cdd, vs, ccs, file, tf, e1, e2, e3, e4⟩ := codeB_ok g3
      obtain ⟨cc, cl, cld, csl, e5, e6⟩ := cellB_ok g4
      obtain ⟨p1, p2, m, k, q0, q1, q2, q3, q4, q5, q6, q7, q8, q9, e7, e8⟩ := fdB_ok g1 e5
      rw [e1] at e8 g2
      rw [e8] at hk
      exact ⟨fI, oc, od, osl, fd.qualname, m, k, p1, p2, q0, q1, q2, q3, q4, q5, q6, q7, q8, q9, _, _, _, cda, _, cc, ccl, cdd, vs, ccs, file, tf, cl, cld, csl, hf, t1, hk, g2, e2, e3, e4, e6, e7⟩
    · cases t2
  · cases h10
end DL

namespace DL
open PySem PySem.Spec PyProof.Rows L2
/-! ### C(e), C(f = e), ValueError(e) as values -/
section
variable {X : Cx} {pins : List (Addr × Obj)} {σ : L2.St} {H : Hp} {s : Shared}
theorem exV_ok {P : Program} {w : World} {H : Hp} {h : Heap} {a : Addr} {cls : Value} {dd : Option Addr} {oe : Obj} {vs : Array Value} (e : h.get? a = some oe) (z : Zc cls dd oe) (d : oe.data = .fields vs) : ObjOk P w H h a (ExV cls dd a) :=
  ⟨⟨oe, vs, e, z, d⟩, ⟨oe, e⟩, fun _ _ ⟨o, v, q, r⟩ k => ⟨o, v, k o q, r⟩⟩
/-- two new objects, laid and tracked at once -/
theorem Inv.laid2 {h' : Heap} {a b : Addr} {oa ob : HO} {t' : Nat} (I : Inv X pins σ H s) (k : ∀ c u, s.heap.get? c = some u → h'.get? c = some u) (pa : s.heap.get? a = none) (pb : s.heap.get? b = none) (na : H a = none) (nb : H b = none) (ne : a ≠ b)
    (oka : ObjOk X.prog X.w (upd (upd H b ob) a oa) h' a oa) (okb : ObjOk X.prog X.w (upd (upd H b ob) a oa) h' b ob) : Inv X pins σ (upd (upd H b ob) a oa) { s with heap := h', toks := t' } := by
  have ua : ∀ {c : Addr} {u : Obj}, s.heap.get? c = some u → c ≠ a := fun {c u} q z => by rw [z, pa] at q; cases q
  have ub : ∀ {c : Addr} {u : Obj}, s.heap.get? c = some u → c ≠ b := fun {c u} q z => by rw [z, pb] at q; cases q
  have lift : ∀ {c : Addr} {o : HO}, H c = some o → upd (upd H b ob) a oa c = some o := fun {c o} q => by
    rw [upd_ne (ne_of_none q na), upd_ne (ne_of_none q nb)]
    exact q
  refine I.un ⟨fun c u q _ _ _ => k c u q, fun c u q _ _ _ => ⟨u.slots, k c u q⟩, fun c u q n _ => ?_, fun c u q _ => ⟨u, k c u q⟩, fun c xs q => lift q, fun c o u q => lift q, fun c ps q => ⟨#[], ?_⟩⟩ fun c o q => ?_
  · rw [upd_ne (ua q), upd_ne (ub q)]
    exact n
  · rw [lift q]
    simp
  · by_cases ha : c = a
    · subst ha
      rw [upd_same] at q
      cases q
      exact oka
    · rw [upd_ne ha] at q
      by_cases hb : c = b
      · subst hb
        rw [upd_same] at q
        cases q
        exact okb
      · rw [upd_ne hb] at q
        exact (I.hok c o q).stay (fun y v _ z => k y v z) (fun y z => lift z) fun y xs z => lift z
/-- C(e): a new exception of the class at C without a dict -/
def rEx0 (cls : Value) : List V → Hp → VK → Prop := fun xs H Q => xs.length ≤ 1000 ∧ ∀ a, H a = none → Q (.ref a) (upd H a (ExV cls none a))
def rEx1 (C : Addr) (f : Str) : List V → Hp → VK → Prop := fun xs H Q => ∃ v, xs = [v] ∧ ∀ a dd, H a = none → H dd = none → a ≠ dd → Q (.ref a) (upd (upd H dd (.xd [(f, v)])) a (ExV (.ref C) (some dd) a))
variable {C : Addr} {x f : Str} {e : Expr} {es : List Expr} {t : TA} {p pos : Pos} {kws : List Keyword}
theorem pe_exv0 (q : PySem.W.excIn X.K C He.veBase "ValueError.__new__" = true) (gC : X.mg x = some (.ref C)) (kC : PySem.W.keepIn X.K (.ref C) = true) (hg : Gl X x)
    (ha : PA X (e :: es) t) (hdb : (x == ("__debug__" : Str)) = false := by decide) (he : starEach (e :: es) X.env = (false, eval e X.env) :: starEach es X.env := by rfl) (hpl : (backTo pos (starEach es X.env)).any (·.1) = false := by rfl) :
    PE X (.Call (.Name x p) (e :: es) [] pos) (fun σ H Q => t σ H fun xs H1 => rEx0 (.ref C) xs H1 Q) := by
  refine ⟨fun pins s σ H Q I h => wpAny_Call_Name_kw (ld_glob I hg gC (PySem.W.callWith_K (h₀ := X.base) I.ok.mod.kin kC (thn (ha.run pos pins s σ H _ I h) fun us s1 ⟨vs, H1, I1, r1, hl, q1⟩ => ⟨I1.kIn, ?_⟩) he hpl) hdb)⟩
  show wpAny _ _ (call (.ref C) us) _ _ _
  obtain ⟨bm, N, nm, qn, bs, hdct, sn, sub, ab, col, dd, k0, k1, k2, k3, k5, mN, hC, hN, hni, T⟩ := exc_obj I1.kIn q
  refine wpAny_call_exc_subT PySem.F.excBase_ValueError T hC hN hni (fun h' a hm => ?_) (by rw [← r1.length, sizeLine_eq]; omega)
  have hn : H1 a = none := I1.hok.gone hm.new
  obtain ⟨t, ht, _, _⟩ := hm.there
  exact ⟨.ref a, upd H1 a (ExV (.ref C) none a), I1.laidN hm.keeps hm.new hn (exV_ok ht ⟨rfl, rfl⟩ rfl), rfl, q1 a hn⟩
/-- ValueError(e) -/
theorem pe_exvB (hg : Gl X "ValueError") (hm : X.mg "ValueError" = none) (ha : PA X (e :: es) t) (he : starEach (e :: es) X.env = (false, eval e X.env) :: starEach es X.env := by rfl) (hpl : (backTo pos (starEach es X.env)).any (·.1) = false := by rfl) :
    PE X (.Call (.Name "ValueError" p) (e :: es) [] pos) (fun σ H Q => t σ H fun xs H1 => rEx0 (.type "ValueError") xs H1 Q) := by
  refine ⟨fun pins s σ H Q I h => wpAny_Call_Name_kw (ld_blt I hg hm boot_ValueError ?_ (by decide) (by decide))⟩
  refine PyProof.Rows.callWith_type1 (thn (ha.run pos pins s σ H _ I h) fun us s1 ⟨vs, H1, I1, r1, hl, q1⟩ => ?_) he hpl
  obtain ⟨hp1, g1, d1, tk1, os1⟩ := s1
  refine wpAny_call_exc exb_ValueError.call (fun h' a mk => ?_) (by rw [← r1.length, sizeLine_eq]; omega)
  have hn : H1 a = none := I1.hok.gone mk.new
  obtain ⟨t, ht, _, _⟩ := mk.there
  exact ⟨.ref a, upd H1 a (ExV (.type "ValueError") none a), I1.laidN mk.keeps mk.new hn (exV_ok ht ⟨rfl, rfl⟩ rfl), rfl, q1 a hn⟩
/-- a class whose __init__ keeps its argument: the call -/
theorem ini_core {rest : List Value} {kw : List (Str × Value)} {u : Value} {v : V} {Q : VK} (F : IniF X.prog X.K C f) (fo : FOk f) (nt : NoThird X.base) (hsup : X.mg "super" = none) (htop : (X.prog.main.scope.names.lookup ("super" : Str)).isSome = false) (hr : Room 1 X.A)
    (hkw : (rest = [u] ∧ kw = []) ∨ (rest = [] ∧ kw = [(f, u)])) (I : Inv X pins σ H s) (r : RelV v u) (hq : ∀ a dd, H a = none → H dd = none → a ≠ dd → Q (.ref a) (upd (upd H dd (.xd [(f, v)])) a (ExV (.ref C) (some dd) a))) :
    wpAny (model X.prog X.w) X.A (call (.ref C) rest kw) (EP X pins σ Q) X.xe s := by
  obtain ⟨fI, oc, od, osl, qual, m, k, p1, p2, q0, q1, q2, q3, q4, q5, q6, q7, q8, q9, doc, pm, an, cda, ct, cc, ccl, cdd, vs, ccs, file, tf, cl, cld, csl, e1, e2, e3, e4, e5, e6, e7, e8, e9⟩ := F.ex
  obtain ⟨nm, q, N, bs, bm, sn, sub, ab, col, dd, k0, k1, k2, k3, k5, hC, hbm⟩ := F.ic.T.cls
  have hbk := I.bk
  have hks := I.kIn
  obtain ⟨hp, g, d, tk, os⟩ := s
  have hz : rest.length ≤ sizeLine := by
    rcases hkw with ⟨rfl, _⟩ | ⟨rfl, _⟩
    · show 1 ≤ sizeLine; rw [sizeLine_eq]; omega
    · exact Nat.zero_le _
  have kk : ∀ b o, hp.get? b = some o → ((hp.push (PySem.W.kdv_tup rest)).push (PySem.HandSPX.excO C hp.objs.size)).get? b = some o := fun b o e => Heap.get?_push_of_some _ (Heap.get?_push_of_some _ e)
  have he : ((hp.push (PySem.W.kdv_tup rest)).push (PySem.HandSPX.excO C hp.objs.size)).get? (hp.objs.size + 1) = some (PySem.HandSPX.excO C hp.objs.size) := by heap_get
  have sz : ((hp.push (PySem.W.kdv_tup rest)).push (PySem.HandSPX.excO C hp.objs.size)).objs.size = hp.objs.size + 2 := by rw [Heap.size_push, Heap.size_push]
  have new : ∀ n, hp.get? (hp.objs.size + n) = none := fun n => Heap.get?_none_of_le (Nat.le_add_right _ _)
  have hne : X.base.get? (hp.objs.size + 1) = none := by
    cases z : X.base.get? (hp.objs.size + 1) with
    | none => rfl
    | some o =>
      have y : hp.get? (hp.objs.size + 1) = some o := hbk _ _ z
      rw [new 1] at y
      cases y
  refine wpAny_call (call_kw PySem.F.excBase_ValueError (fun Y => PySem.HandSPX.refsVE_contains Y bm hbm) (hks _ _ hC) (PySem.W.looks_findIn hks e1) (fun self => PySem.W.bind_fn hks self e2) hz
    (ini_run (base := X.base) I.mod (fun b o z => kk b o (hbk b o z)) nt (hr.make C rest kw).depth F.ic e3 e4 e5 e6 e7 e8 htop hsup fo.h2 fo.hd fo.kk fo.kc fo.kf (v := u) ?_ he hne e9 rfl fun h' dx tk' t1 k' ld hx hns => ?_))
  · rcases hkw with ⟨rfl, rfl⟩ | ⟨rfl, rfl⟩
    · exact .of_eq (fo.bd ..)
    · exact .of_eq (fo.bk ..)
  rw [sz] at ld
  have pa := new 1
  have pb : hp.get? dx = none := Heap.get?_none_of_le (by omega)
  have na : H (hp.objs.size + 1) = none := I.hok.gone pa
  have nb : H dx = none := I.hok.gone pb
  have ne : hp.objs.size + 1 ≠ dx := by omega
  have J := Inv.laid2 (t' := tk') (h' := h') I (fun c z hc => k' c z (fun y => by rw [y] at hc; rw [pa] at hc; cases hc) (kk c z hc)) pa pb na nb ne (exV_ok (cls := .ref C) (dd := some dx) hx ⟨rfl, rfl⟩ rfl)
    (show ObjOk X.prog X.w _ h' dx (.xd [(f, v)]) from ⟨_, hns, relO_put (fs := []) r fun g => True.intro⟩)
  exact ⟨rfl, .ref (hp.objs.size + 1), _, J, rfl, hq _ _ na nb ne⟩
theorem pe_exv1 (F : IniF X.prog X.K C f) (fo : FOk f) (nt : NoThird X.base) (hsup : X.mg "super" = none) (htop : (X.prog.main.scope.names.lookup ("super" : Str)).isSome = false) (hr : Room 1 X.A) (gC : X.mg x = some (.ref C)) (hg : Gl X x)
    (ha : PA X (e :: es) t) (hdb : (x == ("__debug__" : Str)) = false := by decide) (he : starEach (e :: es) X.env = (false, eval e X.env) :: starEach es X.env := by rfl) (hpl : (backTo pos (starEach es X.env)).any (·.1) = false := by rfl) :
    PE X (.Call (.Name x p) (e :: es) [] pos) (fun σ H Q => t σ H fun xs H1 => rEx1 C f xs H1 Q) := by
  refine ⟨fun pins s σ H Q I h => wpAny_Call_Name_kw (ld_glob I hg gC (PySem.W.callWith_K (h₀ := X.base) I.ok.mod.kin F.ic.T.kC (thn (ha.run pos pins s σ H _ I h) fun us s1 ⟨vs, H1, I1, r1, v, ev, q1⟩ => ⟨I1.kIn, ?_⟩) he hpl) hdb)⟩
  subst ev
  cases r1 with
  | cons ru rn =>
    cases rn
    exact ini_core F fo nt hsup htop hr (.inl ⟨rfl, rfl⟩) I1 ru q1
theorem pe_exvK (F : IniF X.prog X.K C f) (fo : FOk f) (nt : NoThird X.base) (hsup : X.mg "super" = none) (htop : (X.prog.main.scope.names.lookup ("super" : Str)).isSome = false) (hr : Room 1 X.A) (gC : X.mg x = some (.ref C)) (hg : Gl X x)
    (hk : PK X kws t) (hall : (backToKw pos (keywordEach kws X.env)).all (·.1.isSome) = true := by rfl) (hks : (backToKw pos (keywordEach kws X.env)).filterMap (·.1) = [f] := by rfl) (hdb : (x == ("__debug__" : Str)) = false := by decide)
    (hpl : ((backTo pos (starEach [] X.env)).any (·.1) || (backToKw pos (keywordEach kws X.env)).any (·.1.isNone)) = false := by rfl) :
    PE X (.Call (.Name x p) [] kws pos) (fun σ H Q => t σ H fun xs H1 => rEx1 C f xs H1 Q) := by
  refine ⟨fun pins s σ H Q I h => wpAny_Call_Name_kw (ld_glob I hg gC (PySem.W.callWith_KW0 (h₀ := X.base) I.ok.mod.kin F.ic.T.kC hall (thn (hk.run pos pins s σ H _ I h) fun us s1 ⟨vs, H1, I1, r1, v, ev, q1⟩ => ⟨I1.kIn, ?_⟩) hpl) hdb)⟩
  rw [hks]
  subst ev
  cases r1 with
  | cons ru rn =>
    cases rn
    exact ini_core F fo nt hsup htop hr (.inr ⟨rfl, rfl⟩) I1 ru q1
end
end DL

namespace DL
open PySem PySem.Spec PyProof.Rows L2 LamX
/-! ### the law's def, called where no repr is under way -/
/-- as FnOk, but only where nothing guarded is under way -/
def FnG (P : Program) (w : World) (K : PySem.W.Frag) (mg : Str → Option Value) (base : Heap) (CX : CXT) (k : Nat) (f : Addr) (fd : FuncData) (ps : List Str) (sp : Sp) : Prop :=
  ∀ (A : Around) (outer : List Env) (s : Shared) (H : Hp) (args : Args) (us : List Value) (vs : List V) (Q : VK) (E : XK), A.guards = some [] → Room k A → Env0 P w K mg base A outer s H → BindsTo s fd args (ps.zip us) → Vals vs us → sp vs H Q E →
    codeAny (model P w) A (.call (.ref f) args) (CR CX outer P w H s Q E) s
theorem fn_ofG {CX : CXT} {P : Program} {w : World} {K : PySem.W.Frag} {mg : Str → Option Value} {base : Heap} {k : Nat} {f : Addr} {name qual : Str} {params : Arguments} {body : List Stmt} {scope : Scope} {dV kV doc pm cdv ct oc : Value} {an od : Option Addr}
    {osl : Array (Option Value)} {N ps : List Str} {sp : Sp} (lk : K.lookup f = some ⟨oc, od, .func (PySem.W.fnOf name qual params body scope dV kV doc pm an cdv ct), osl⟩) (hcd : PySem.W.codeIn K cdv qual = true) (S : FnScope N ps scope) (len : ∀ vs H Q E, sp vs H Q E → vs.length = ps.length)
    (hbody : ∀ (A : Around) (outer : List Env) (s : Shared) (H : Hp) (vs : List V) (Q : VK) (E : XK), (A.deeper (envOfC qual scope s.heap.objs.size f cdv)).guards = some [] → Room k (A.deeper (envOfC qual scope s.heap.objs.size f cdv)) → sp vs H Q E →
      ∃ t, PSs (cxOf CX P w K mg base N qual scope f cdv A outer s H E) body t ∧ t { nx := fun _ H' => Q .non H', rt := Q } (start N vs) H) :
    FnG P w K mg base CX (k + 1) f (PySem.W.fnOf name qual params body scope dV kV doc pm an cdv ct) ps sp := by
  intro A outer s H args us vs Q E hg hr e0 hb r hsp
  have in0 : ∀ b o, base.get? b = some o → s.heap.get? b = some o := fun b o e => (e0.bs b o e).1
  have kin : K.In s.heap := e0.mod.kin.keeps in0
  refine codeAny_call_function hr.depth (kin _ _ lk) rfl S.co S.gen rfl (PySem.W.codeRec_of kin hcd) (hb _ _ _ _ (wpAny_newFunctionEnv_cells S.kind (fun ⟨n, v⟩ hy => ?_) fun env he s1 x => ?_))
  · exact (S.par n (List.of_mem_zip hy).1).elim .inl fun q => .inr ⟨q, PySem.W.cellsFrom_some _ _ _ (.inl q)⟩
  · subst he
    obtain ⟨t, ht, hq⟩ := hbody A outer s H vs Q E hg (hr.deeper _) hsp
    have J : L2.Inv (cxOf CX P w K mg base N qual scope f cdv A outer s H E) [] (start N vs) H s1 := inv_start S hr.hd e0 (len _ _ _ _ hsp) r x
    refine ⟨(e0.mod.nolimit.keeps in0).keeps x.toInCall.keep, codeAny_func (wpAny_mono (ht.run [] s1 (start N vs) H _ J hq) (fun fl s' hs => ?_) fun _ _ z => z)⟩
    have done : ∀ {σ' : L2.St} {H' : Hp} {v : V} {u : Value}, L2.Inv (cxOf CX P w K mg base N qual scope f cdv A outer s H E) [] σ' H' s' → RelV v u → Q v H' → CE outer P w H s Q u s' := fun {σ' H' v u} J' rv q => ⟨v, H', J'.os, J'.bare, J'.base, J'.hok, rv, q⟩
    match fl, hs with
    | .ret u, ⟨v, σ', H', J', rv, q⟩ => exact done J' rv q
    | .next, ⟨σ', H', J', q⟩ => exact done (v := V.non) (u := Value.none) J' rfl q
    | .brk, ⟨_, _, _, q⟩ => exact False.elim q
    | .cont, ⟨_, _, _, q⟩ => exact False.elim q
/-- the law's call, no tables of code objects -/
theorem law_callG {P : Program} {w : World} {K : PySem.W.Frag} {mg mb : Str → Option Value} {CX : CXT} {k : Nat} {fa a : Addr} {fd : FuncData} {x : Str} {sp : Sp} {s : Shared} {vs : List Value} {ns : List Int}
    (kin : K.In s.heap) (hns : s.heap.Ns mainGlobals mg) (hb : s.heap.Ns builtinsNs mb) (hbb : ∀ x : Str, x ≠ "__name__" → mb x = bootBuiltins x) (hlim : s.heap.NoLimit) (hgn : s.gens = #[])
    (ha : s.heap.get? a = some { cls := .type "list", data := .seq vs.toArray }) (hi : IntsAre vs ns) (hl : ns.length ≤ sizeLine) (hr : Room k callerA)
    (nt : NoThird s.heap) (F : ∀ base : Heap, K.In base → base.Ns mainGlobals mg → NoThird base → FnG P w K mg base CX k fa fd [x] sp) (hbind : ∀ (s : Shared) (u : Value), BindsTo s fd ⟨[u], []⟩ [(x, u)])
    (hsp : ∀ H : Hp, SqL K H a (ns.map V.int) → sp [.ref a] H (fun v _ => v = .bl true) fun _ _ _ => False) (hCX : ∀ H e s', CX [] H s (fun _ _ _ => False) e s' → False) :
    codeAny (model P w) callerA (.call (.ref fa) ⟨[.ref a], []⟩) (fun r s' => r = .ok (.ret (.bool true)) ∧ OldK s.heap s'.heap ∧ s'.os = s.os ∧ AllBare s'.gens) s := by
  have rv := vals_ints hi
  have lenV := hi.length
  -- the abstract heap tracks the script at most, and never changes it
  suffices main : ∀ H : Hp, (∀ b u, H b = some u → b = a ∧ ∃ o xs, u = .frz o (.lst xs)) → (∀ o, K.lookup a = some o → H a = none) → SqL K H a (ns.map V.int) → HOk P w H s.heap →
      codeAny (model P w) callerA (.call (.ref fa) ⟨[.ref a], []⟩) (fun r s' => r = .ok (.ret (.bool true)) ∧ OldK s.heap s'.heap ∧ s'.os = s.os ∧ AllBare s'.gens) s by
    cases hk : K.lookup a with
    | some o =>
      have e := kin a o hk
      rw [ha] at e
      cases e
      exact main (fun _ => none) (fun b u z => nomatch z) (fun _ _ => rfl) (.inr ⟨_, vs.toArray, _, hk, rfl, rfl, rfl, by rw [List.size_toArray, lenV]; exact hl, by simpa using rv⟩) (fun b u z => nomatch z)
    | none =>
      refine main (fun b => if b = a then some (.frz { cls := .type "list", data := .seq vs.toArray } (.lst (ns.map V.int))) else none) (fun b u z => ?_) (fun o z => by rw [hk] at z; cases z) (.inl (.inr ⟨{ cls := .type "list", data := .seq vs.toArray }, if_pos rfl⟩)) fun b u z => ?_
      · by_cases q : b = a
        · exact ⟨q, _, _, (Option.some.inj ((if_pos q).symm.trans z)).symm⟩
        · cases (if_neg q).symm.trans z
      · by_cases q : b = a
        · cases (if_pos q).symm.trans z
          subst q
          exact ⟨ha, by rw [List.length_map]; exact hl, vs, _, rv, ha⟩
        · cases (if_neg q).symm.trans z
  intro H only notK hS hok
  have untracked : ∀ {b : Addr} {o : Obj}, s.heap.get? b = some o → (∀ vs n, o.data ≠ .seq vs n) → H b = none := fun {b o} e h1 => by
    cases q : H b with
    | none => rfl
    | some u =>
      obtain ⟨rfl, _⟩ := only b u q
      rw [ha] at e
      cases e
      exact (h1 _ _ rfl).elim
  have ns1 : ∀ {b : Addr} {m : Str → Option Value}, s.heap.Ns b m → (hidT s.heap H).Ns b m := fun {b m} ⟨o, es, ep, e, dd, r⟩ => ⟨o, es, ep, hidT_get e (untracked e fun vs n z => by rw [dd] at z; cases z), dd, r⟩
  have kin0 : K.In (hidT s.heap H) := fun b o e => hidT_get (kin b o e) (by
    cases q : H b with
    | none => rfl
    | some u =>
      obtain ⟨rfl, _⟩ := only b u q
      rw [notK o e] at q
      cases q)
  have hM : L2.Mod K mg (hidT s.heap H) := ⟨kin0, ns1 hns, ⟨mb, ns1 hb, hbb⟩, let ⟨mc, h1, h2⟩ := hlim; ⟨mc, ns1 h1, h2⟩⟩
  have e0 : Env0 P w K mg (hidT s.heap H) callerA [] s H := ⟨rfl, hM, fun b o e => of_hidT e, Nat.le_of_eq (hidT_size _ _), trivial, fun b hb => (nomatch (show b ∈ ([] : List Addr) from hb)), hok, .of_eq hgn⟩
  have nt0 : NoThird (hidT s.heap H) := by
    obtain ⟨o, h1, h2⟩ := nt
    exact ⟨o, hidT_get h1 (untracked h1 (NoThird.noSeq h2)), h2⟩
  refine codeAny_mono (F _ kin0 (ns1 hns) nt0 callerA [] s H ⟨[.ref a], []⟩ [.ref a] [.ref a] _ _ rfl hr e0 (hbind s (.ref a)) (.cons rfl .nil) (hsp H hS)) fun r s' h => ?_
  match r, h with
  | .error e, h => exact (hCX H e s' h).elim
  | .ok .next, h => exact h.elim
  | .ok .brk, h => exact h.elim
  | .ok .cont, h => exact h.elim
  | .ok (.ret u), ⟨v, H', os, bare, un, hok', r', q⟩ =>
    have q' : v = .bl true := q
    subst q'
    obtain rfl : u = Value.bool true := r'
    have old : ∀ b o, s.heap.get? b = some o → s'.heap.get? b = some o := fun b o e => by
      cases q : H b with
      | none => exact un.keep b o e q (fun z => nomatch (show b ∈ ([] : List Addr) from z)) (by simp)
      | some u =>
        obtain ⟨rfl, ob, xs, rfl⟩ := only b u q
        have y := (hok b _ q).1
        rw [e] at y
        cases y
        exact (hok' b _ (un.frzs b _ _ q)).1
    exact ⟨rfl, ⟨fun b o e => .inl (old b o e), fun b o e => ⟨o, old b o e⟩⟩, os, bare⟩
theorem walk_ofG {l : PySem.W.OpenLaw} {n k : Nat} {q : Program} {loose : List Str} {XP : (Str → Option Value) → Heap → Prop} {YP : World → Heap → Prop} {d : DefRec} {CX : World → CXT} {x : Str}
    (hn : l.most = some n) (hn2 : n ≤ sizeLine) (hdf : d.params.defaults = []) (hr : Room k callerA)
    (F : ∀ (w : World) (mg : Str → Option Value) (fa : Addr) (h : Heap), YP w h → h.Ns mainGlobals mg → mg d.name = some (.ref fa) → ∃ K : PySem.W.Frag, K.In h ∧ NoThird h ∧ ∃ (fd : FuncData) (sp : Sp), (∀ (s : Shared) (u : Value), BindsTo s fd ⟨[u], []⟩ [(x, u)]) ∧
      (∀ (H : Hp) (a : Addr) (ns : List Int), ns.length ≤ n → SqL K H a (ns.map V.int) → sp [.ref a] H (fun v _ => v = .bl true) fun _ _ _ => False) ∧
      ∀ base : Heap, K.In base → base.Ns mainGlobals mg → NoThird base → FnG l.prog w K mg base (CX w) k fa fd [x] sp)
    (hCX : ∀ (w : World) (H : Hp) (s : Shared) (e : Value) (s' : Shared), CX w [] H s (fun _ _ _ => False) e s' → False) :
    PySem.W.WalkO q loose XP YP l.row.toRowW d [] (fun f vs => PySem.call f vs) := by
  refine Att.attach_callB hn hdf fun w s₀ s₁ mg mb fa o pm cd doc a vs ns G Y ho hd hcd hmg hobj hints hlen hbits hg => ?_
  obtain ⟨K, kin, nt, fd, sp, hb, hsp, hF⟩ := F w mg fa _ Y G.T.g hmg
  exact law_callG kin G.T.g G.T.b G.T.builtins G.T.nolimit hg hobj hints (Nat.le_trans hlen hn2) hr nt hF hb (fun H hS => hsp H a ns hlen hS) fun H e s' => hCX w H s₁ e s'
/-- a Hook that looks at the statics, too -/
def hookN (n : Nat) (fa : List He.Fa) (fn : List He.DefD) (tf : List He.Defn) (ex : PySem.W.Frag → Bool) : PySem.W.Hook where
  α := He.AlX × Bool
  obs := fun s => (He.obsX n fa fn [] tf ex s.heap.get?, thB s.heap.get?)
  val := fun w => (He.valX fn [] w, true)
  says := fun w h => (∃ K : PySem.W.Frag, K.In h ∧ He.SaysX fa fn [] tf ex w h K) ∧ NoThird h
  of := fun w s e => ⟨(He.hookX n fa fn [] tf ex).of w s (congrArg Prod.fst e), thB_ok (congrArg Prod.snd e)⟩
  keeps := fun w h h' z k => ⟨(He.hookX n fa fn [] tf ex).keeps w h h' z.1 k, z.2.keeps k⟩
theorem obsN_eq {n : Nat} {fa : List He.Fa} {fn : List He.DefD} {tf : List He.Defn} {ex : PySem.W.Frag → Bool} {g : Addr → Option Obj} {s : Shared} (h : ∀ a, g a = s.heap.get? a) : ((He.obsX n fa fn [] tf ex g, thB g) : He.AlX × Bool) = (hookN n fa fn tf ex).obs s := by
  have e : g = s.heap.get? := funext h
  rw [e]
  rfl
end DL

namespace DL
open PySem PySem.Spec PyProof.Rows L2 LamX
section
variable {X : Cx} {W : Wt} {P : PP} {K : PySem.W.Frag} {M : Fm} {al : Nat → Option Addr} {σ : L2.St} {H : Hp} {δ : Sls} {ω : Om}
variable {a b e c : Expr} {es : List Expr} {fa fb fc : EvE} {fs : EvA} {pos : Pos} {x f : Str} {p : Pos}
/-! ### exceptions as values -/
def gEx0 (c : Str) : List D → Option D := fun ds => if ds.length ≤ 1000 then some (.exc c []) else none
def gEx1 (c f : Str) : List D → Option D
  | [d] => some (.exc c [(f, d)])
  | _ => none
theorem o_ex0 {c : Str} : OpN K (rEx0 (.ref (He.ga K c))) (gEx0 c) := ⟨fun sa N H xs as d Q r e nt k => by
  unfold gEx0 at e
  split at e
  · rename_i hl
    cases e
    exact ⟨by rw [r.len]; exact hl, fun a ha => k _ _ (same_upd ha) (.exc0 upd_same)⟩
  · cases e⟩
theorem o_ex1 {c f : Str} : OpN K (rEx1 (He.ga K c) f) (gEx1 c f) := ⟨fun sa N H xs as d Q r e nt k => by
  unfold gEx1 at e
  split at e
  · rename_i d0
    cases e
    obtain ⟨v, rfl, r1⟩ := r.one
    refine ⟨v, rfl, fun a dd ha hd ne => ?_⟩
    have s1 := same_upd (o := .xd [(f, v)]) hd
    have na : upd H dd (.xd [(f, v)]) a = none := by rw [upd_ne ne]; exact ha
    have s2 := same_upd (o := ExV (.ref (He.ga K c)) (some dd) a) na
    exact k _ _ (fun b o z => s2 b o (s1 b o z)) (.exc1 upd_same (by rw [upd_ne (Ne.symm ne)]; exact upd_same) (same_rep s2 (same_rep s1 r1)))
  · cases e⟩
theorem pd_ex0 (q : PySem.W.excIn X.K (He.ga X.K x) He.veBase "ValueError.__new__" = true) (gC : X.mg x = some (.ref (He.ga X.K x))) (kC : PySem.W.keepIn X.K (.ref (He.ga X.K x)) = true) (ha : PAd X W (e :: es) fs) (hg : Gl X x := by rfl) (hdb : (x == ("__debug__" : Str)) = false := by decide)
    (he : starEach (e :: es) X.env = (false, eval e X.env) :: starEach es X.env := by rfl) (hpl : (backTo pos (starEach es X.env)).any (·.1) = false := by rfl) : PEd X W (.Call (.Name x p) (e :: es) [] pos) (eOpN (gEx0 x) fs) := by
  obtain ⟨t, p1, q1⟩ := ha.ex
  exact ⟨_, pe_exv0 q gC kC hg p1 hdb he hpl, tN_ok o_ex0 q1⟩
theorem pd_ex1 (F : IniF X.prog X.K (He.ga X.K x) f) (fo : FOk f) (nt : NoThird X.base) (hsup : X.mg "super" = none) (htop : (X.prog.main.scope.names.lookup ("super" : Str)).isSome = false) (hr : Room 1 X.A) (gC : X.mg x = some (.ref (He.ga X.K x)))
    (ha : PAd X W (e :: es) fs) (hg : Gl X x := by rfl) (hdb : (x == ("__debug__" : Str)) = false := by decide) (he : starEach (e :: es) X.env = (false, eval e X.env) :: starEach es X.env := by rfl) (hpl : (backTo pos (starEach es X.env)).any (·.1) = false := by rfl) :
    PEd X W (.Call (.Name x p) (e :: es) [] pos) (eOpN (gEx1 x f) fs) := by
  obtain ⟨t, p1, q1⟩ := ha.ex
  exact ⟨_, pe_exv1 F fo nt hsup htop hr gC hg p1 hdb he hpl, tN_ok o_ex1 q1⟩
theorem pd_exK {kws : List Keyword} (F : IniF X.prog X.K (He.ga X.K x) f) (fo : FOk f) (nt : NoThird X.base) (hsup : X.mg "super" = none) (htop : (X.prog.main.scope.names.lookup ("super" : Str)).isSome = false) (hr : Room 1 X.A) (gC : X.mg x = some (.ref (He.ga X.K x)))
    (hkw : PKd X W kws fs) (hg : Gl X x := by rfl) (hall : (backToKw pos (keywordEach kws X.env)).all (·.1.isSome) = true := by rfl) (hks : (backToKw pos (keywordEach kws X.env)).filterMap (·.1) = [f] := by rfl) (hdb : (x == ("__debug__" : Str)) = false := by decide)
    (hpl : ((backTo pos (starEach [] X.env)).any (·.1) || (backToKw pos (keywordEach kws X.env)).any (·.1.isNone)) = false := by rfl) : PEd X W (.Call (.Name x p) [] kws pos) (eOpN (gEx1 x f) fs) := by
  obtain ⟨t, p1, q1⟩ := hkw.ex
  exact ⟨_, pe_exvK F fo nt hsup htop hr gC hg p1 hall hks hdb hpl, tN_ok o_ex1 q1⟩
/-! ### their attribute -/
def tXv (K : PySem.W.Frag) (n : Str) (te : TE) : TE := fun σ H Q => te σ H fun x H1 => ∃ (a C dd : Addr) (fs : List (Str × V)) (v : V), x = .ref a ∧ H1 a = some (ExV (.ref C) (some dd) a) ∧ XfC K C ∧ PySem.W.findIn K (.ref C) n = some none ∧ H1 dd = some (.xd fs) ∧ fs.lookup n = some v ∧ Q v H1
theorem pe_xv {e : Expr} {te : TE} {n : Str} (he : PE X e te) (hb : attributeBase e n X.env (eval e X.env) = eval e X.env) : PE X (.Attribute e n pos) (tXv X.K n te) := by
  refine ⟨fun pins s σ H Q I h => attr_of hb (thn (he.run pins s σ H _ I h) fun u s1 hh => ?_)⟩
  obtain ⟨x, H1, I1, rx, a, C, dd, fs, v, ex, ha, T, hno, ea, l, q⟩ := hh
  subst ex
  obtain rfl : u = Value.ref a := rx
  obtain ⟨oe, vs, h1, h2, h3⟩ := (show ∃ (oe : Obj) (vs : Array Value), s1.heap.get? a = some oe ∧ Zc (.ref C) (some dd) oe ∧ oe.data = .fields vs from (show ObjOk X.prog X.w H1 s1.heap a (ExV (.ref C) (some dd) a) from I1.hok a _ ha).1)
  obtain ⟨mA, hns, hr⟩ := (show ObjOk X.prog X.w H1 s1.heap dd (.xd fs) from I1.hok dd _ ea)
  obtain ⟨od, ho, hl⟩ := lookIn_ns hns
  obtain ⟨u, hu, ru⟩ := RelO.some_of (v := v) (o := mA n) (by rw [← l]; exact hr n)
  have J : PySem.W.InstAt s1.heap a oe C (some od) := ⟨h1, h2.1, by unfold PySem.W.notCls; rw [h3] <;> rfl, by rw [h2.2]; exact ho⟩
  exact HandSPX.exc_get I1.kIn J T.ga T.gg T.exC (PySem.W.findObj_own T.hdC hno rfl (by rw [hl, hu])) (handed_of ru) ⟨v, H1, I1.tok _, ru, q⟩
def eAt (c n : Str) (fe : EvE) : EvE := fun δ ω => (fe δ ω).bind fun d ω1 => match d with
  | .exc c' [(f, v)] => if c' = c ∧ f = n then .ok v ω1 else .bad
  | _ => .bad
theorem pd_at {c n : Str} (T : XfC X.K (He.ga X.K c)) (hno : PySem.W.findIn X.K (.ref (He.ga X.K c)) n = some none) (he : PEd X W e fa) (hb : attributeBase e n X.env (eval e X.env) = eval e X.env := by rfl) : PEd X W (.Attribute e n pos) (eAt c n fa) := by
  obtain ⟨t, p1, q1⟩ := he.ex
  refine ⟨_, pe_xv p1 hb, fun M al σ H δ ω Q S h => ?_⟩
  refine q1 M al σ H δ ω _ S (post_mono (fun x H1 h1 => ?_) (post_bind (rel := relE X.K M al) h))
  obtain ⟨d1, ω1, e1, S1, f1, r1, h1⟩ := h1
  split at h1
  · rename_i c' f' v'
    split at h1
    · rename_i hc
      obtain ⟨rfl, rfl⟩ := hc
      cases r1 with
      | exc1 g1 g2 g3 => exact ⟨_, _, _, _, _, rfl, g1, T, hno, g2, by simp [List.lookup], h1 _ _ S1 f1 g3⟩
    · exact h1.elim
  · exact h1.elim
end
end DL

namespace DL
open PySem PySem.Spec PyProof.Rows L2 LamX
section
variable {X : Cx} {W : Wt} {P : PP} {K : PySem.W.Frag} {M : Fm} {al : Nat → Option Addr} {σ : L2.St} {H : Hp} {δ : Sls} {ω : Om}
variable {a b e c : Expr} {es : List Expr} {fa fb fc : EvE} {fs : EvA} {pos : Pos} {x f : Str} {p : Pos}
/-! ### isinstance of exceptions that are values -/
def rIsO (K : PySem.W.Frag) : List V → Hp → VK → Prop := fun xs H Q => ∃ (a D : Addr) (c : V) (u : Value) (b : Bool), xs = [.ref a, c] ∧ ClsV c u ∧ (H a = some (ExV (.ref D) none a) ∨ ∃ dd fs, H a = some (ExV (.ref D) (some dd) a) ∧ H dd = some (.xd fs)) ∧ ExcC K D ∧ PySem.W.kitOne K (.ref D) u = some b ∧ Q (.bl b) H
theorem call_isO : CallR X (.builtin "isinstance") (rIsO X.K) := by
  intro pins s σ H xs us Q I r h
  obtain ⟨a, D, c, u, b, rfl, k, hx, C, e, q⟩ := h
  obtain ⟨u1, u2, rfl, r1, r2⟩ := vals2 r
  have e2 := k.eq r2
  subst e2
  cases (show u1 = Value.ref a from r1)
  have hcl : (PySem.W.clsIn X.K D).isSome = true := by
    obtain ⟨cd, hc, _⟩ := PySem.W.any_some C.hd
    rw [hc]
    rfl
  obtain ⟨oe, od, J⟩ : ∃ oe od, PySem.W.InstAt s.heap a oe D od := by
    rcases hx with hx | ⟨dd, fs, hx, hd⟩
    · obtain ⟨oe, vs, h1, h2, h3⟩ := (show ∃ (oe : Obj) (vs : Array Value), s.heap.get? a = some oe ∧ Zc (.ref D) none oe ∧ oe.data = .fields vs from (show ObjOk X.prog X.w H s.heap a (ExV (.ref D) none a) from I.hok a _ hx).1)
      exact ⟨oe, none, h1, h2.1, by unfold PySem.W.notCls; rw [h3] <;> rfl, by rw [h2.2]; trivial⟩
    · obtain ⟨oe, vs, h1, h2, h3⟩ := (show ∃ (oe : Obj) (vs : Array Value), s.heap.get? a = some oe ∧ Zc (.ref D) (some dd) oe ∧ oe.data = .fields vs from (show ObjOk X.prog X.w H s.heap a (ExV (.ref D) (some dd) a) from I.hok a _ hx).1)
      obtain ⟨mA, hns, hr⟩ := (show ObjOk X.prog X.w H s.heap dd (.xd fs) from I.hok dd _ hd)
      obtain ⟨od, ho, hl⟩ := lookIn_ns hns
      exact ⟨oe, some od, h1, h2.1, by unfold PySem.W.notCls; rw [h3] <;> rfl, by rw [h2.2]; exact ho⟩
  exact PySem.W.kia_one (PySem.W.kitx_exc hcl C.hg C.hk C.hs C.ha C.hn C.ht C.hm) I.kIn J e (fun z => nomatch z) fun tk => ⟨.bl b, H, I.kept (t' := tk) fun _ _ z => z, rfl, q⟩
/-- what the head is to tell: each class has just LeafError behind itself -/
def leTail (K : PySem.W.Frag) : List Value := .ref (He.ga K "LeafError") :: He.veBase
def clE (K : PySem.W.Frag) (c : Str) : Bool := (match PySem.W.clsIn K (He.ga K c) with
  | some cd => decide (cd.mro = if c = "LeafError" then leTail K else .ref (He.ga K c) :: leTail K)
  | none => false) && (PySem.W.typeIn K (.ref (He.ga K c)) == some (.type "type"))
def eqE (K : PySem.W.Frag) (cs : List Str) : Bool := cs.all (clE K) && decide ((cs.map (He.ga K)).Nodup)
theorem clE_ok {c : Str} (h : clE K c = true) : ∃ cd, PySem.W.clsIn K (He.ga K c) = some cd ∧ cd.mro = (if c = "LeafError" then leTail K else .ref (He.ga K c) :: leTail K) ∧ (PySem.W.typeIn K (.ref (He.ga K c)) == some (.type "type")) = true := by
  unfold clE at h
  obtain ⟨h1, h2⟩ := Bool.and_eq_true_iff.mp h
  split at h1
  · rename_i cd hc
    exact ⟨cd, hc, of_decide_eq_true h1, h2⟩
  · cases h1
theorem nodup_inj {α β : Type} {g : α → β} : ∀ {l : List α} {a b : α}, (l.map g).Nodup → a ∈ l → b ∈ l → g a = g b → a = b
  | [], _, _, _, h, _, _ => nomatch h
  | y :: l, a, b, nd, ha, hb, e => by
    rw [List.map_cons, List.nodup_cons] at nd
    rcases List.mem_cons.mp ha with ea | ma
    · rcases List.mem_cons.mp hb with eb | mb
      · rw [ea, eb]
      · exact (nd.1 (List.mem_map.mpr ⟨b, mb, by rw [← e, ea]⟩)).elim
    · rcases List.mem_cons.mp hb with eb | mb
      · exact (nd.1 (List.mem_map.mpr ⟨a, ma, by rw [e, eb]⟩)).elim
      · exact nodup_inj nd.2 ma mb e
theorem mroE {c : Str} {v : Value} {cs : List Str} (h : eqE K cs = true) (hc : c ∈ cs) : PySem.W.mroIn K (He.ga K c) v = some ((if c = "LeafError" then leTail K else .ref (He.ga K c) :: leTail K).contains v) := by
  obtain ⟨h1, _⟩ := Bool.and_eq_true_iff.mp h
  obtain ⟨cd, e1, e2, e3⟩ := clE_ok (List.all_eq_true.mp h1 c hc)
  unfold PySem.W.mroIn
  rw [e1, Option.bind_some, e2]
  have ne : (if c = "LeafError" then leTail K else .ref (He.ga K c) :: leTail K).isEmpty = false := by split <;> rfl
  rw [ne]
  rfl
theorem kit_own {c u : Str} {cs : List Str} (h : eqE K cs = true) (hc : c ∈ cs) (hu : u ∈ cs) (hl : ("LeafError" : Str) ∈ cs) : PySem.W.kitOne K (.ref (He.ga K c)) (.ref (He.ga K u)) = some (decide (c = u) || decide (u = "LeafError")) := by
  obtain ⟨h1, h2⟩ := Bool.and_eq_true_iff.mp h
  have nd := of_decide_eq_true h2
  unfold PySem.W.kitOne
  by_cases e : c = u
  · subst e
    simp
  · have ne : He.ga K c ≠ He.ga K u := fun z => e (nodup_inj nd hc hu z)
    have nb : ((Value.ref (He.ga K c)) == (Value.ref (He.ga K u))) = false := by simp [ne]
    rw [nb, if_neg Bool.false_ne_true]
    obtain ⟨cd, e1, e2, e3⟩ := clE_ok (List.all_eq_true.mp h1 u hu)
    show (if ((PySem.W.clsIn K (He.ga K u)).isSome && PySem.W.typeIn K (.ref (He.ga K u)) == some (.type "type")) = true then PySem.W.subIn K (.ref (He.ga K c)) (.ref (He.ga K u)) else none) = _
    rw [e1, e3, if_pos (show ((some cd).isSome && true) = true from rfl)]
    show PySem.W.mroIn K (He.ga K c) (.ref (He.ga K u)) = _
    rw [mroE h hc, decide_eq_false e, Bool.false_or]
    congr 1
    have tail : (leTail K).contains (.ref (He.ga K u)) = decide (u = "LeafError") := by
      unfold leTail
      rw [List.contains_cons]
      have t0 : He.veBase.contains (.ref (He.ga K u)) = false := rfl
      rw [t0, Bool.or_false]
      by_cases eu : u = "LeafError"
      · subst eu
        simp
      · have : He.ga K u ≠ He.ga K "LeafError" := fun z => eu (nodup_inj nd hu hl z)
        simp [eu, this]
    split
    · exact tail
    · rw [List.contains_cons, tail]
      have : ((Value.ref (He.ga K u)) == (Value.ref (He.ga K c))) = false := by simp [Ne.symm ne]
      rw [this, Bool.false_or]
theorem kit_ve {c : Str} {cs : List Str} (h : eqE K cs = true) (hc : c ∈ cs) : PySem.W.kitOne K (.ref (He.ga K c)) (.type "ValueError") = some true := by
  unfold PySem.W.kitOne
  rw [if_neg (by simp)]
  have km : PySem.W.kitMeta "ValueError" = true := by kernel_rfl
  show (if PySem.W.kitMeta "ValueError" = true then PySem.W.subIn K (.ref (He.ga K c)) (.type "ValueError") else none) = _
  rw [if_pos km]
  show PySem.W.mroIn K (He.ga K c) (.type "ValueError") = _
  rw [mroE h hc]
  congr 1
  have t0 : (leTail K).contains (.type "ValueError") = true := by
    unfold leTail
    rw [List.contains_cons]
    have : He.veBase.contains (.type "ValueError") = true := by decide +kernel
    rw [this, Bool.or_true]
  split
  · exact t0
  · rw [List.contains_cons, t0, Bool.or_true]
def gIsE (cs : List Str) : List D → Option D
  | [.exc c _, .glo u] => if c ∈ cs ∧ u ∈ cs then some (.bl (decide (c = u) || decide (u = "LeafError"))) else none
  | [.exc c _, .ty n] => if c ∈ cs ∧ n = "ValueError" then some (.bl true) else none
  | _ => none
theorem o_isE {cs : List Str} (hk : eqE K cs = true) (hc : excOk K cs = true) (hl : ("LeafError" : Str) ∈ cs) : OpN K (rIsO K) (gIsE cs) := ⟨fun sa N H xs as d Q r e nt k => by
  unfold gIsE at e
  split at e
  · split at e
    · rename_i c fs u hcu
      cases e
      obtain ⟨v, w, rfl, r1, r2⟩ := r.two
      have hcl : ClsV w (.ref (He.ga K u)) := clD_cls (t := .own u) r2 rfl
      have kk := kit_own hk hcu.1 hcu.2 hl
      cases r1 with
      | exc0 h => exact ⟨_, _, _, _, _, rfl, hcl, .inl h, excOk_of hc hcu.1, kk, k _ _ (Same.refl _) (.bl _)⟩
      | exc1 h h2 _ => exact ⟨_, _, _, _, _, rfl, hcl, .inr ⟨_, _, h, h2⟩, excOk_of hc hcu.1, kk, k _ _ (Same.refl _) (.bl _)⟩
    · cases e
  · split at e
    · rename_i c fs n hcu
      obtain ⟨hcu, rfl⟩ := hcu
      cases e
      obtain ⟨v, w, rfl, r1, r2⟩ := r.two
      have hcl : ClsV w (.type "ValueError") := clD_cls (K := K) (t := .ty "ValueError") r2 rfl
      have kk := kit_ve hk hcu
      cases r1 with
      | exc0 h => exact ⟨_, _, _, _, _, rfl, hcl, .inl h, excOk_of hc hcu, kk, k _ _ (Same.refl _) (.bl _)⟩
      | exc1 h h2 _ => exact ⟨_, _, _, _, _, rfl, hcl, .inr ⟨_, _, h, h2⟩, excOk_of hc hcu, kk, k _ _ (Same.refl _) (.bl _)⟩
    · cases e
  · cases e⟩
end
end DL

namespace DL
open PySem PySem.Spec PyProof.Rows L2 LamX
section
variable {X : Cx} {W : Wt} {P : PP} {K : PySem.W.Frag} {M : Fm} {al : Nat → Option Addr} {σ : L2.St} {H : Hp} {δ : Sls} {ω : Om}
variable {a b e c : Expr} {es : List Expr} {fa fb fc : EvE} {fs : EvA} {pos : Pos} {x f : Str} {p : Pos}
/-! ### isinstance(ValueError(e), C) -/
def rIsVB (K : PySem.W.Frag) : List V → Hp → VK → Prop := fun xs H Q => ∃ (a : Addr) (c : V) (u : Value) (b : Bool), xs = [.ref a, c] ∧ ClsV c u ∧ H a = some (ExV (.type "ValueError") none a) ∧ PySem.W.kitOne K (.type "ValueError") u = some b ∧ Q (.bl b) H
theorem call_isVB : CallR X (.builtin "isinstance") (rIsVB X.K) := by
  intro pins s σ H xs us Q I r h
  obtain ⟨a, c, u, b, rfl, k, hx, e, q⟩ := h
  obtain ⟨u1, u2, rfl, r1, r2⟩ := vals2 r
  have e2 := k.eq r2
  subst e2
  cases (show u1 = Value.ref a from r1)
  obtain ⟨oe, vs, h1, h2, h3⟩ := (show ∃ (oe : Obj) (vs : Array Value), s.heap.get? a = some oe ∧ Zc (.type "ValueError") none oe ∧ oe.data = .fields vs from (show ObjOk X.prog X.w H s.heap a (ExV (.type "ValueError") none a) from I.hok a _ hx).1)
  exact PySem.W.kia_one (PySem.W.kitx_bexc PySem.F.excAttr_ValueError PySem.F.lkClass_ValueError PySem.F.soClass_ValueError (by decide)) I.kIn ⟨oe, h1, h2.1⟩ e (fun z => nomatch z) fun tk => ⟨.bl b, H, I.kept (t' := tk) fun _ _ z => z, rfl, q⟩
theorem kit_ve_own {c : Str} {cs : List Str} (h : eqE K cs = true) (hc : c ∈ cs) : PySem.W.kitOne K (.type "ValueError") (.ref (He.ga K c)) = some false := by
  obtain ⟨h1, _⟩ := Bool.and_eq_true_iff.mp h
  obtain ⟨cd, e1, e2, e3⟩ := clE_ok (List.all_eq_true.mp h1 c hc)
  unfold PySem.W.kitOne
  rw [if_neg (by simp)]
  show (if ((PySem.W.clsIn K (He.ga K c)).isSome && PySem.W.typeIn K (.ref (He.ga K c)) == some (.type "type")) = true then PySem.W.subIn K (.type "ValueError") (.ref (He.ga K c)) else none) = _
  rw [e1, e3, if_pos (show ((some cd).isSome && true) = true from rfl)]
  show (PySem.fastBuiltinMro "ValueError").map (·.contains (.ref (He.ga K c))) = some false
  generalize He.ga K c = z
  have e : PySem.fastBuiltinMro "ValueError" = some He.veBase := by kernel_rfl
  rw [e]
  rfl
def eIsVB (fs : EvA) : EvE := fun δ ω => (fs δ ω).bind fun ds ω1 => if ds.length ≤ 1000 then .ok (.bl false) ω1 else .bad
theorem pd_isVB {c : Str} {cs : List Str} {p0 p1 p2 pos1 : Pos} (hk : eqE X.K cs = true) (hc : c ∈ cs) (hmi : X.mg "isinstance" = none) (hmv : X.mg "ValueError" = none) (hmc : X.mg c = some (.ref (He.ga X.K c))) (ha : PAd X W (e :: es) fs)
    (hgi : Gl X "isinstance" := by rfl) (hgv : Gl X "ValueError" := by rfl) (hgc : Gl X c := by rfl) (hdb : (c == ("__debug__" : Str)) = false := by decide) (he : starEach (e :: es) X.env = (false, eval e X.env) :: starEach es X.env := by rfl) (hpl : (backTo pos1 (starEach es X.env)).any (·.1) = false := by rfl) :
    PEd X W (.Call (.Name "isinstance" p0) [.Call (.Name "ValueError" p1) (e :: es) [] pos1, .Name c p2] [] pos) (eIsVB fs) := by
  obtain ⟨t, q0, q1⟩ := ha.ex
  refine ⟨_, pe_callB call_isVB hgi hmi (by decide +kernel) (pa_cons (pe_exvB hgv hmv q0 he hpl) (pa_cons (pe_glob (v := .ref (He.ga X.K c)) hgc hmc rfl hdb) pa_nil rfl) rfl), fun M al σ H δ ω Q S h => ?_⟩
  refine q1 M al σ H δ ω _ S (post_mono (fun xs H1 h1 => ?_) (post_bind (rel := relA X.K M al) h))
  obtain ⟨ds, ω1, e1, S1, f1, r1, h1⟩ := h1
  split at h1
  · rename_i hl
    refine ⟨by rw [r1.len]; exact hl, fun a ha => ?_⟩
    have sm := same_upd (o := ExV (.type "ValueError") none a) ha
    exact ⟨a, _, _, false, rfl, .own _, upd_same, kit_ve_own hk hc, h1 _ _ (S1.same sm) (f1.trans (.same sm)) (.bl false)⟩
  · exact h1.elim
/-! ### in, of scalars; a list times a number; repr -/
def scalsD : List D → Option (List V)
  | [] => some []
  | d :: ds => match dScal d, scalsD ds with
    | some x, some xs => some (x :: xs)
    | _, _ => none
theorem scals_rep {sa : Addr} {N : Addr → Prop} {H : Hp} : ∀ {xs : List V} {ds : List D} {ys : List V}, Reps K sa N H xs ds → scalsD ds = some ys → xs = ys
  | _, _, _, .nil, e => by cases e; rfl
  | _, _, _, .cons (d := d) (ds := ds) r rs, e => by
    unfold scalsD at e
    split at e
    · rename_i hx hxs
      cases e
      rw [dScal_rep r hx, scals_rep rs hxs]
    · cases e
theorem dScal_flat {d : D} {v : V} (h : dScal d = some v) : flatV v = true := by
  cases d <;> first | (cases h; rfl) | cases h
theorem scals_flat : ∀ {ds : List D} {ys : List V}, scalsD ds = some ys → ys.all flatV = true
  | [], _, e => by cases e; rfl
  | d :: ds, _, e => by
    unfold scalsD at e
    split at e
    · rename_i hx hxs
      cases e
      rw [List.all_cons, dScal_flat hx, scals_flat hxs]
      rfl
    · cases e
def gInL : D → D → Option D := fun a b => match dScal a, b with
  | some x, .lst ds => (scalsD ds).map fun xs => .bl (inV x xs)
  | _, _ => none
theorem o_inL : Op2 K (rIn K false) gInL := ⟨fun sa N H x y a b d Q ra rb e nt k => by
  unfold gInL at e
  split at e
  · rename_i x' ds hx
    cases q : scalsD ds with
    | none => rw [q] at e; cases e
    | some xs =>
      rw [q] at e
      cases e
      cases rb with
      | lst h n l r =>
        have ex := dScal_rep ra hx
        subst ex
        have exs := scals_rep r q
        subst exs
        exact ⟨_, _, rfl, .inl (SqL.of h), dScal_flat hx, scals_flat q, k _ _ (Same.refl _) (.bl _)⟩
  · cases e⟩
def gRepL : D → D → Option D
  | .lst ds, .int k => if 0 ≤ k ∧ k < 2 ^ 63 ∧ ds.length * k.toNat ≤ sizeLine then some (.lst (List.replicate k.toNat ds).flatten) else none
  | _, _ => none
theorem reps_rep {sa : Addr} {N : Addr → Prop} {H : Hp} {xs : List V} {ds : List D} (r : Reps K sa N H xs ds) : ∀ n, Reps K sa N H (List.replicate n xs).flatten (List.replicate n ds).flatten
  | 0 => .nil
  | n + 1 => by
    rw [List.replicate_succ, List.replicate_succ, List.flatten_cons, List.flatten_cons]
    exact r.app (reps_rep r n)
theorem o_repL : Op2 K rRep gRepL := ⟨fun sa N H x y a b d Q ra rb e nt k => by
  unfold gRepL at e
  split at e
  · split at e
    · rename_i ds i hc
      obtain ⟨h0, h1, h2⟩ := hc
      cases e
      cases rb
      cases ra with
      | lst h n l r =>
        have hl : (List.replicate i.toNat ds).flatten.length ≤ sizeLine := by
          rw [List.length_flatten, List.map_replicate, List.sum_replicate_nat, Nat.mul_comm]
          exact h2
        have hr := reps_rep r i.toNat
        refine ⟨_, _, _, rfl, rfl, h, by omega, h1, by rw [r.len]; exact h2, fun p hp => k _ _ (same_upd hp) (new_ok nt hp (by rw [hr.len]; exact hl) hr)⟩
    · cases e
  · cases e⟩
def isRefD : D → Bool
  | .lst _ => true
  | .tup _ => true
  | _ => false
def gRepr : List D → Option D
  | [d] => (toPy d).bind fun p => if isRefD d = true ∧ p.showable = true ∧ p.hasDict = false ∧ p.depth ≤ 60 ∧ p.shown.length ≤ sizeLine then some (.str p.shown) else none
  | _ => none
def rReprD (K : PySem.W.Frag) : List V → Hp → VK → Prop := fun xs H Q => ∃ (a : Addr) (p : PyData), xs = [.ref a] ∧ Dp K H (.ref a) p ∧ p.showable = true ∧ p.hasDict = false ∧ p.depth ≤ 60 ∧ p.shown.length ≤ sizeLine ∧ Q (.str p.shown) H
theorem call_reprD (hg : X.A.guards = some []) (hu : X.A.units + 64 < cLine) : CallR X (.builtin "repr") (rReprD X.K) := by
  intro pins s σ H xs us Q I r h
  obtain ⟨a, p, rfl, hd, h1, h2, h3, h4, q⟩ := h
  cases r with
  | cons r1 rn =>
    cases rn
    rename_i u
    cases (show u = Value.ref a from r1)
    obtain ⟨as, rr⟩ := Dp.reads I p (.ref a) (.ref a) hd rfl
    exact repr_of_reads' rr h1 (fun z => by rw [h2] at z; cases z) hg (by omega) (fun _ _ z => z) (fun h' w tk hk => ⟨.str p.shown, H, I.kept (t' := tk) hk, ⟨w, rfl⟩, q⟩) h4
theorem o_repr : OpN K (rReprD K) gRepr := ⟨fun sa N H xs as d Q r e nt k => by
  unfold gRepr at e
  split at e
  · rename_i d0
    obtain ⟨v, rfl, r1⟩ := r.one
    cases q : toPy d0 with
    | none => rw [q] at e; cases e
    | some p =>
      rw [q] at e
      simp only [Option.bind_some] at e
      split at e
      · rename_i hc
        obtain ⟨h0, h1, h2, h3, h4⟩ := hc
        cases e
        have hd := r1.dp q
        have key : ∀ a, v = .ref a → rReprD K [v] H Q := fun a ea => by
          subst ea
          exact ⟨a, p, rfl, hd, h1, h2, h3, h4, k _ _ (Same.refl _) (.str _)⟩
        cases r1 with
        | tup _ _ _ => exact key _ rfl
        | lst _ _ _ _ => exact key _ rfl
        | _ => cases h0
      · cases e
  · cases e⟩
/-! ### a, b, c = x, y, z -/
def sPar3 (i j l : Nat) (fs : EvA) : EvS := fun δ ω => (fs δ ω).bind fun ds ω1 => match ds with
  | [d1, d2, d3] => .ok (.nx (((δ.set i (.val d1)).set j (.val d2)).set l (.val d3))) ω1
  | _ => .bad
theorem Reps.three {sa : Addr} {N : Addr → Prop} {H : Hp} {xs : List V} {d1 d2 d3 : D} (r : Reps K sa N H xs [d1, d2, d3]) : ∃ u v w, xs = [u, v, w] ∧ Rep K sa N H u d1 ∧ Rep K sa N H v d2 ∧ Rep K sa N H w d3 := by
  cases r with
  | cons r1 rs =>
    obtain ⟨v, w, rfl, r2, r3⟩ := Reps.two rs
    exact ⟨_, v, w, rfl, r1, r2, r3⟩
theorem less1 {N : Addr → Prop} {H1 : Hp} {i : Nat} {al : Nat → Option Addr} : ∀ b, NA N (fun j => if j = i then none else al j) b → Tr H1 b → NA N al b := fun b hb _ => by
  rcases hb with hb | ⟨k, hb⟩
  · exact .inl hb
  · by_cases e : k = i
    · simp only [e, if_pos] at hb; cases hb
    · simp only [if_neg e] at hb; exact .inr ⟨k, hb⟩
theorem sd_par3 {i j l : Nat} {x y z : Str} {px py pz pt : Pos} {kt k2 : Nat} {pt2 : Pos} (hc : X.calm = true) (hN : X.N.Nodup) (hi : X.N[i]? = some x) (hj : X.N[j]? = some y) (hl : X.N[l]? = some z) (hij : i ≠ j) (hil : i ≠ l) (hjl : j ≠ l)
    (hx : X.env.scope.names.lookup x = some .local) (hy : X.env.scope.names.lookup y = some .local) (hz : X.env.scope.names.lookup z = some .local) (ha : PAd X W [a, b, c] fs)
    (hw : swappedStores [.Tuple [.Name x px, .Name y py, .Name z pz] kt pt] (.Tuple [a, b, c] k2 pt2) X.env = pure (some [x, y, z]) := by rfl)
    (hs : swapsWithSole [.Tuple [.Name x px, .Name y py, .Name z pz] kt pt] (.Tuple [a, b, c] k2 pt2) pos.line X.env = pure false := by rfl) :
    PSd X W (.Assign [.Tuple [.Name x px, .Name y py, .Name z pz] kt pt] (.Tuple [a, b, c] k2 pt2) pos) (sPar3 i j l fs) := by
  obtain ⟨t, p1, q1⟩ := ha.ex
  refine ⟨_, ps_par3 hc hN hi hj hl hij hil hjl hx hy hz p1 hw hs, fun M al σ H δ ω DD S h => ?_⟩
  refine q1 M al σ H δ ω _ S (post_mono (fun xs H1 h1 => ?_) (posts_bind (rel := relA X.K M al) S.fr h))
  obtain ⟨ds, ω1, e1, S1, f1, r1, h1⟩ := h1
  split at h1
  · rename_i d1 d2 d3
    obtain ⟨u, v, w, rfl, r2, r3, r4⟩ := r1.three
    refine ⟨u, v, w, rfl, ?_⟩
    have S2 := S1.set (i := i) r2
    have S3 := S2.set (i := j) (r3.less less1)
    have S4 := S3.set (i := l) ((r4.less less1).less less1)
    exact h1 _ _ H1 S4 f1.s ((AlExt.drop.trans (Z := M.Z) (Fr.refl _) AlExt.drop).trans (Z := M.Z) (Fr.refl _) AlExt.drop)
  · exact h1.elim
end
section
variable {Pr : Program} {w : World} {K : PySem.W.Frag} {mg : Str → Option Value} {base : Heap} {x qual : Str} {st : Stmt} {fd : FuncData} {k : Nat}
/-- the law, where no repr is under way -/
theorem law_okG {T : List (Addr × Str)} {N : List Str} {g : EvS} (F : FunD K x qual (defArgs st) (defBody st) (defScope st) [] [] (He.ga K x) fd) (sc : FnScope ("script" :: "state" :: N) ["script"] (defScope st))
    (hb : ∀ (cdv : Value), cdv = .ref (He.codeOf K (x, none)) → ∀ (A : Around) (outer : List Env) (s : Shared) (H : Hp) (E : XK), (A.deeper (envOfC qual (defScope st) s.heap.objs.size (He.ga K x) cdv)).guards = some [] → Room k (A.deeper (envOfC qual (defScope st) s.heap.objs.size (He.ga K x) cdv)) →
      Takes (cxOf (L2.CX Pr w) Pr w K mg base ("script" :: "state" :: N) qual (defScope st) (He.ga K x) cdv A outer s H E) (fun cls d _ H => E cls d H) →
      ∃ st0 rest, defBody st = st0 :: rest ∧ PS (cxOf (L2.CX Pr w) Pr w K mg base ("script" :: "state" :: N) qual (defScope st) (He.ga K x) cdv A outer s H E) st0 (tAsg (tBegun K T E) (gName 1)) ∧
        PSsd (cxOf (L2.CX Pr w) Pr w K mg base ("script" :: "state" :: N) qual (defScope st) (He.ga K x) cdv A outer s H E) ⟨E, PD T⟩ rest g) :
    FnG Pr w K mg base (L2.CX Pr w) (k + 1) (He.ga K x) fd ["script"] (spLaw K T N.length g) := by
  obtain ⟨oc, od, dV, kV, doc, pm, an, cdv, ct, osl, rfl, lk, hcd, _, _⟩ := F.ex
  obtain ⟨c, ec⟩ := He.codeIn_ref hcd
  have e2 : cdv = .ref (He.codeOf K (x, none)) := by
    have := He.codeOf_eq (p := (x, none)) lk ec
    rw [this, ec]
  refine fn_ofG lk hcd sc (fun vs H Q E ⟨a, ns, h, _⟩ => by rw [h]; rfl) fun A outer s H vs Q E hgu hr h => ?_
  obtain ⟨a, ns, rfl, hs, hl, tT, ⟨ω', hg⟩, h⟩ := h
  obtain ⟨st0, rest, eb, p0, hrest⟩ := hb cdv e2 A outer s H E hgu hr (takes_of rfl rfl rfl rfl)
  obtain ⟨t, p1, q1⟩ := hrest.ex
  refine ⟨_, by rw [eb]; exact pss_cons p0 p1, ?_⟩
  refine ⟨_, rfl, a, ns, rfl, hs, hl, tT, fun sa ga ca H' fr n1 n2 n3 dg tT' => ?_⟩
  let Z : Addr → Prop := fun b => b = sa ∨ b = ga ∨ b = ca
  let M : Fm := ⟨sa, Z, Z, fun ω H => DrawG sa ga ca ω H ∧ Tabs T H, H'⟩
  have na : Tr H a → ¬ Z a := fun t z => by
    rcases z with z | z | z
    · exact n1 (z ▸ t)
    · exact n2 (z ▸ t)
    · exact n3 (z ▸ t)
  have rs : Rep K sa Z H' (.ref a) (.scr ns) := by
    have r := scr_rep (N := Z) (sa := sa) hs hl na
    exact r.mono (Z := fun _ => False) fr fun _ z => z.elim
  have S0 : DSt K (PD T) M (fun _ => none) (L2.start ("script" :: "state" :: N) [V.ref a, V.ref sa]) H' ([D.scr ns, D.st].map .val ++ List.replicate N.length .emp) (om0 ns) := by
    refine DSt.start (M := M) (n := 2) (ds := [.scr ns, .st]) ⟨ga, ca, rfl, rfl⟩ (fun _ z => z) PD.gm ⟨dg, tT'⟩ (fun b z => ?_) (.cons rs (.cons .st .nil)) rfl (by show N.length + 1 + 1 = 2 + (N.length + 1 + 1 - 2); omega)
    rcases z with z | z | z
    · rw [z]; exact ⟨_, dg.d, trivial⟩
    · rw [z]; exact ⟨_, dg.g, trivial⟩
    · rw [z]; exact ⟨_, dg.c, trivial⟩
  have es : (L2.start ("script" :: "state" :: N) [V.ref a]).set 1 (some (V.ref sa)) = L2.start ("script" :: "state" :: N) [V.ref a, V.ref sa] := by
    unfold L2.start
    rfl
  show t _ ((L2.start ("script" :: "state" :: N) [V.ref a]).set 1 (some (V.ref sa))) H'
  rw [es]
  refine q1 M _ _ _ _ (om0 ns) _ S0 ?_
  show PostS _ M _ _ (g (.val (.scr ns) :: .val .st :: List.replicate N.length .emp) (om0 ns)) _ _
  rw [hg]
  intro v H2 _ _ r
  cases r
  exact h H2
end
end DL

namespace DL
open PySem PySem.Spec PyProof.Rows L2 LamX
section
variable {X : Cx} {W : Wt} {K : PySem.W.Frag} {M : Fm} {al : Nat → Option Addr} {σ : L2.St} {H : Hp} {δ : Sls}
variable {a b e c : Expr} {es : List Expr} {fa fb fc : EvE} {fs : EvA} {pos : Pos}
/-- enumerate(list) -/
def numbered (ds : List D) : List D := ds.zipIdx.map fun p => .tup [.int (p.2 : Nat), p.1]
theorem numbered_length (ds : List D) : (numbered ds).length = ds.length := by
  unfold numbered
  rw [List.length_map, List.length_zipIdx]
theorem numbered_get {ds : List D} {i : Nat} {d : D} (h : ds[i]? = some d) : (numbered ds)[i]? = some (.tup [.int (i : Nat), d]) := by
  unfold numbered
  rw [List.getElem?_map, List.getElem?_zipIdx, h]
  simp
def iEnumL (fs : EvA) : EvI := fun δ ω => (fs δ ω).bind fun ds ω1 => match ds with
  | [.lst xs] => .ok (numbered xs) ω1
  | _ => .bad
theorem itD_enumL {sa : Addr} {N : Addr → Prop} {a : Addr} {xs : List V} {ds : List D} (ha : H a = some (.lst xs)) (nN : ¬ N a) (hl : xs.length ≤ sizeLine) (r : Reps K sa N H xs ds) : ItD K sa N (Ite K a) H (numbered ds) := ⟨by rw [numbered_length, ← r.len]; exact hl, fun N' Z hn hz i H' f => by
  have h' : SqL K H' a xs := SqL.of (f.keep _ _ ha fun z => nN (hz _ z))
  rw [numbered_length]
  refine ⟨fun hi => ?_, fun hi => ⟨xs, h', by rw [r.len]; exact hi⟩⟩
  have hx : i < xs.length := by rw [r.len]; exact hi
  refine ⟨⟨xs, xs[i], h', List.getElem?_eq_getElem hx⟩, fun x H'' y => ?_⟩
  obtain ⟨T, x0, rfl, hT, rfl, hx0⟩ := y
  obtain ⟨d, hd, rd⟩ := r.get (hx0 xs h')
  have sm := same_upd (o := .tup [.int (i : Nat), x0]) hT
  exact ⟨sm, _, numbered_get hd, .tup (SqT.of upd_same) (by show 2 ≤ sizeLine; decide) (.cons (.int _) (.cons (same_rep sm (rd.onto hn hz f)) .nil))⟩⟩
theorem id_enumL {p tpos : Pos} {elts : List Expr} {kk : Nat} (hm : X.mg "enumerate" = none) (h : PAd X W [a] fs) (hg : Gl X "enumerate" := by rfl) (hs : starEach [a] X.env = [(false, eval a X.env)] := by rfl) : PId X W (.Tuple elts kk tpos) (.Call (.Name "enumerate" p) [a] [] pos) (iEnumL fs) := by
  obtain ⟨t, p1, q1⟩ := h.ex
  refine ⟨_, pi_enum hg hm p1 hs, fun M al σ H δ ω R S h => ?_⟩
  refine q1 M al σ H δ ω _ S (post_mono (fun x H1 h1 => ?_) (post_bind (rel := relA X.K M al) h))
  obtain ⟨d1, ω1, e1, S1, f1, r1, h1⟩ := h1
  split at h1
  · obtain ⟨v, rfl, r⟩ := r1.one
    cases r with
    | lst h n l r => exact ⟨_, _, rfl, SqL.of h, h1 _ _ S1 f1 (itD_enumL h n l r)⟩
  · exact h1.elim
end
end DL

namespace DL
open PySem
/-! ### draws, bounded by turns -/
def Tb (b : Int) (ω : Om) : Prop := 0 ≤ ω.turn ∧ ω.turn ≤ b
theorem Tb.ok {b : Int} {ω : Om} (h : Tb b ω) (hb : b < 2 ^ 40) : turnOk ω := ⟨h.1, Int.lt_of_le_of_lt h.2 hb⟩
theorem Tb.le {b c : Int} {ω : Om} (h : Tb b ω) (hb : b ≤ c) : Tb c ω := ⟨h.1, Int.le_trans h.2 hb⟩
theorem draw_step {b n : Int} {ω : Om} (h : Tb b ω) (hb : b < 2 ^ 40) (h0 : 0 < n) (h1 : n < 2 ^ 30) : ∃ k : Nat, ∃ ω', drawF [.st, .int n] ω = .ok (.int (k : Nat)) ω' ∧ (k : Int) < n ∧ Tb (b + 1) ω' := by
  obtain ⟨d0, d1⟩ := drawI_lt (ω := ω) h0
  refine ⟨(drawI n ω).toNat, drawO n ω, ?_, by omega, ?_⟩
  · rw [Int.toNat_of_nonneg d0]
    exact if_pos ⟨h0, h1, h.ok hb⟩
  · obtain ⟨h2, h3⟩ := h
    rcases drawO_turn n ω with e | e <;> (unfold Tb; rw [e]; omega)
theorem pick_step {b : Int} {ω : Om} {d : D} {xs : List D} (hc : choices d = some xs) (h : Tb b ω) (hb : b < 2 ^ 40) (h0 : 0 < xs.length) (h1 : xs.length < 2 ^ 24) : ∃ y, ∃ ω', pickF [.st, d] ω = .ok y ω' ∧ y ∈ xs ∧ Tb (b + 1) ω' := by
  have hn : (0 : Int) < (xs.length : Nat) := by omega
  obtain ⟨d0, d1⟩ := drawI_lt (ω := ω) hn
  have hi : (drawI xs.length ω).toNat < xs.length := by omega
  refine ⟨xs.getD (drawI xs.length ω).toNat .non, drawO xs.length ω, ?_, ?_, ?_⟩
  · show (match choices d with
      | some xs => if 0 < xs.length ∧ xs.length < 2 ^ 24 ∧ turnOk ω then Rs.ok (xs.getD (drawI xs.length ω).toNat .non) (drawO xs.length ω) else .bad
      | none => .bad) = _
    rw [hc]
    exact if_pos ⟨h0, h1, h.ok hb⟩
  · have e : xs.getD (drawI xs.length ω).toNat .non = xs[(drawI xs.length ω).toNat] := by simp [hi]
    rw [e]
    exact List.getElem_mem hi
  · obtain ⟨h2, h3⟩ := h
    rcases drawO_turn xs.length ω with e | e <;> (unfold Tb; rw [e]; omega)
theorem range_run {fs : EvA} {δ : Sls} {ω ω' : Om} {k : Nat} (h : fs δ ω = .ok [.int (k : Nat)] ω') (hk : k ≤ 1000000) : iRange fs δ ω = .ok ((List.range k).map fun (j : Nat) => D.int (j : Nat)) ω' := by
  have hs : sizeLine = 16777216 := rfl
  have hc : -(2 ^ 62) ≤ ((k : Nat) : Int) ∧ ((k : Nat) : Int) ≤ (sizeLine : Nat) := by rw [hs]; omega
  simp only [iRange, h, Rs.bind_ok, hc, and_self, if_true, Int.toNat_natCast]
/-! ### lists -/
theorem gAdd_L {a b : List D} (h : a.length + b.length ≤ sizeLine) : gAdd (.lst a) (.lst b) = some (.lst (a ++ b)) := by
  show ((none : Option D).or ((none : Option D).or ((if a.length + b.length ≤ sizeLine then some (.lst (a ++ b)) else none).or _))) = _
  rw [if_pos h]
  rfl
theorem gLst_ok {a : List D} (h : a.length ≤ sizeLine) : gLst a = some (.lst a) := if_pos h
/-! ### statements run -/
theorem sSeq_run {a b : EvS} {δ δ1 : Sls} {ω ω1 : Om} (h : a δ ω = .ok (.nx δ1) ω1) : sSeq a b δ ω = b δ1 ω1 := by
  unfold sSeq
  rw [h]
  rfl
theorem sFor_run {f : EvI} {g : EvG} {body : EvS} {δ : Sls} {ω ω1 : Om} {ds : List D} (h : f δ ω = .ok ds ω1) : sFor f g body δ ω = loopF g body ds δ ω1 := by
  unfold sFor
  rw [h]
  rfl
theorem sPar3_run {i j l : Nat} {fs : EvA} {δ : Sls} {ω ω1 : Om} {d1 d2 d3 : D} (h : fs δ ω = .ok [d1, d2, d3] ω1) : sPar3 i j l fs δ ω = .ok (.nx (((δ.set i (.val d1)).set j (.val d2)).set l (.val d3))) ω1 := by
  unfold sPar3
  rw [h]
  rfl
theorem sSet_run {i : Nat} {fe : EvE} {δ : Sls} {ω ω1 : Om} {d : D} (h : fe δ ω = .ok d ω1) : sSet i fe δ ω = .ok (.nx (δ.set i (.val d))) ω1 := by
  unfold sSet
  rw [h]
  rfl
theorem eLst_run {fs : EvA} {δ : Sls} {ω ω1 : Om} {ds : List D} (h : fs δ ω = .ok ds ω1) (hl : ds.length ≤ sizeLine) : eOpN gLst fs δ ω = .ok (.lst ds) ω1 := by
  unfold eOpN
  rw [h]
  show rs1 (gLst ds) ω1 = _
  rw [gLst_ok hl]
  rfl
theorem toPyL_map {α : Type} (u : α → D) (v : α → PyData) (h : ∀ a, toPy (u a) = some (v a)) : ∀ l : List α, toPy.toPyL (l.map u) = some (l.map v)
  | [] => rfl
  | a :: r => by
    have ih := toPyL_map u v h r
    rw [List.map_cons, List.map_cons]
    unfold toPy.toPyL
    rw [h a, ih]
theorem canLay_map {α : Type} (v : α → PyData) (h : ∀ a, (v a).canLay0 = true) : ∀ l : List α, PyData.canLayAll0 (l.map v) = true
  | [] => rfl
  | a :: r => by
    rw [List.map_cons]
    unfold PyData.canLayAll0
    rw [h a, canLay_map v h r]
    rfl
theorem depth_map {α : Type} (v : α → PyData) (h : ∀ a, (v a).depth = 0) : ∀ l : List α, PyData.depthAll (l.map v) = 0
  | [] => rfl
  | a :: r => by
    rw [List.map_cons]
    unfold PyData.depthAll
    rw [h a, depth_map v h r]
    rfl
/-- a list of plain things is not unlike itself -/
theorem gNe_self {α : Type} (u : α → D) (v : α → PyData) (h : ∀ a, toPy (u a) = some (v a)) (h1 : ∀ a, (v a).canLay0 = true) (h2 : ∀ a, (v a).depth = 0) (l : List α) : gNe (.lst (l.map u)) (.lst (l.map u)) = some (.bl false) := by
  have e1 : toPy (.lst (l.map u)) = some (.list (l.map v)) := by
    show (toPy.toPyL (l.map u)).map PyData.list = _
    rw [toPyL_map u v h l]
    rfl
  have c : (PyData.list (l.map v)).canLay0 = true := by
    show PyData.canLayAll0 (l.map v) = true
    exact canLay_map v h1 l
  have dd : (PyData.list (l.map v)).depth = 1 := by
    show PyData.depthAll (l.map v) + 1 = 1
    rw [depth_map v h2 l]
  have sh : SeqAt.shaped (PyData.list (l.map v)) = true := by
    unfold SeqAt.shaped
    rw [c, dd]
    rfl
  have rf := SeqAt.eqv_refl _ c
  show ((none : Option D).or (gEqD true (.lst (l.map u)) (.lst (l.map u)))) = _
  unfold gEqD
  rw [e1]
  show (none : Option D).or (if SeqAt.shaped (PyData.list (l.map v)) = true ∧ SeqAt.shaped (PyData.list (l.map v)) = true then some (.bl (if true = true then !PyData.eqv (PyData.list (l.map v)) (PyData.list (l.map v)) else PyData.eqv (PyData.list (l.map v)) (PyData.list (l.map v)))) else none) = _
  rw [if_pos ⟨sh, sh⟩, if_pos rfl, rf]
  rfl
end DL

namespace DL
open PySem PySem.Spec PyProof.Rows L2 LamX
section
variable {X : Cx} {W : Wt} {P : PP} {K : PySem.W.Frag} {M : Fm} {al : Nat → Option Addr} {σ : L2.St} {H : Hp} {δ : Sls} {ω : Om}
variable {a b e c : Expr} {es : List Expr} {fa fb fc : EvE} {fs : EvA} {pos : Pos}
/-! ### dicts of text keys as values -/
def valD : List Str → List D → Str → Option D
  | k :: ks, d :: ds, z => if k = z then some d else valD ks ds z
  | _, _, _ => none
theorem dks_val {sa : Addr} {N : Addr → Prop} {H : Hp} (z : Str) : ∀ {ks : List Str} {xs : List V} {ds : List D}, ks.length = xs.length → Reps K sa N H xs ds →
    (valD ks ds z = none ∧ valV (dks ks xs) (Sum.inr z) = none) ∨ ∃ d v, valD ks ds z = some d ∧ valV (dks ks xs) (Sum.inr z) = some v ∧ Rep K sa N H v d
  | [], _, _, _, .nil => .inl ⟨rfl, rfl⟩
  | [], _, _, e, .cons _ _ => by cases e
  | k :: ks, _, _, e, .nil => by cases e
  | k :: ks, v :: xs, d :: ds, e, .cons r rs => by
    have ih := dks_val z (ks := ks) (xs := xs) (ds := ds) (Nat.succ.inj e) rs
    have e1 : dks (k :: ks) (v :: xs) = (Sum.inr k, v) :: dks ks xs := rfl
    rw [e1]
    unfold valV valD
    rw [List.find?_cons]
    by_cases h : k = z
    · subst h
      rw [if_pos rfl]
      exact .inr ⟨d, v, rfl, by simp, r⟩
    · rw [if_neg h]
      have : decide ((Sum.inr k : Key) = Sum.inr z) = false := decide_eq_false fun q => h (Sum.inr.inj q)
      simp only [this]
      exact ih
theorem dget_of {sa : Addr} {N : Addr → Prop} {H : Hp} {v : V} {ks : List Str} {ds : List D} (r : Rep K sa N H v (.map ks ds)) (z : Str) : ∃ p o, v = .ref p ∧ DGet H p (.str z) o ∧ ((valD ks ds z = none ∧ o = none) ∨ ∃ d x, valD ks ds z = some d ∧ o = some x ∧ Rep K sa N H x d) := by
  cases r with
  | map h n e l r =>
    refine ⟨_, _, rfl, DGet.k (k := Sum.inr z) h, ?_⟩
    rcases dks_val z e r with ⟨h1, h2⟩ | ⟨d, x, h1, h2, h3⟩
    · exact .inl ⟨h1, h2⟩
    · exact .inr ⟨d, x, h1, h2, h3⟩
/-- text in dict -/
def gDIn (neg : Bool) : D → D → Option D
  | .str z, .map ks ds => some (.bl (if neg then !(valD ks ds z).isSome else (valD ks ds z).isSome))
  | _, _ => none
def rDIn (neg : Bool) : R2 := fun y x H Q => ∃ p o, x = .ref p ∧ DGet H p y o ∧ Q (.bl (if neg then !o.isSome else o.isSome)) H
theorem op_dIn (hu : X.A.units + 64 < cLine) : OpR X (compareOp .In) (rDIn false) := by
  intro pins s σ H x y v u Q I rx ry h
  obtain ⟨p, o, ex, g, q⟩ := h
  subst ex
  obtain rfl : u = Value.ref p := ry
  exact d_in (by omega) I g rx fun s3 I3 => ⟨.bl o.isSome, H, I3, rfl, q⟩
theorem op_dNotIn (hu : X.A.units + 64 < cLine) : OpR X (compareOp .NotIn) (rDIn true) := by
  intro pins s σ H x y v u Q I rx ry h
  obtain ⟨p, o, ex, g, q⟩ := h
  subst ex
  obtain rfl : u = Value.ref p := ry
  exact d_notIn (by omega) I g rx fun s3 I3 => ⟨.bl (!o.isSome), H, I3, rfl, q⟩
theorem o_dIn {neg : Bool} : Op2 K (rDIn neg) (gDIn neg) := ⟨fun sa N H x y a b d Q ra rb e nt k => by
  unfold gDIn at e
  split at e
  · rename_i z ks ds
    cases e
    cases ra
    obtain ⟨p, o, ev, g, q⟩ := dget_of rb z
    refine ⟨p, o, ev, g, ?_⟩
    have es : o.isSome = (valD ks ds z).isSome := by
      rcases q with ⟨h1, h2⟩ | ⟨d, x, h1, h2, _⟩ <;> rw [h1, h2] <;> rfl
    rw [es]
    exact k _ _ (Same.refl _) (.bl _)
  · cases e⟩
/-- dict[text] -/
def gDIx : D → D → Option D
  | .map ks ds, .str z => valD ks ds z
  | _, _ => none
theorem pd_dIx (hu : X.A.units + 64 < cLine) (ha : PEd X W a fa) (hb : PEd X W b fb) (hs : NoSl b := by exact fun _ _ => rfl) : PEd X W (.Subscript a b pos) (eOp2 gDIx fa fb) := by
  obtain ⟨ta, p1, q1⟩ := ha.ex
  obtain ⟨tb, p2, q2⟩ := hb.ex
  refine ⟨_, pe_dget (by omega) p1 p2 hs, tOp_ok (r := fun x y H Q => ∃ p v, x = .ref p ∧ DGet H p y (some v) ∧ Q v H) (a := a) (b := b) ⟨fun sa N H x y a b d Q ra rb e nt k => ?_⟩ q1 q2⟩
  unfold gDIx at e
  split at e
  · rename_i ks ds z
    cases rb
    obtain ⟨p, o, ev, g, q⟩ := dget_of ra z
    rcases q with ⟨h1, _⟩ | ⟨d', x, h1, h2, h3⟩
    · rw [h1] at e; cases e
    · rw [h1] at e
      cases e
      subst h2
      exact ⟨p, x, ev, g, k _ _ (Same.refl _) h3⟩
  · cases e
/-- dict.get(text, e) -/
def gDGet2 : D → D → D → Option D
  | .map ks ds, .str z, d => some ((valD ks ds z).getD d)
  | _, _, _ => none
/-- {} -/
theorem pd_map0 : PEd X W (.Dict [] [] pos) (eC (.map [] [])) := by
  refine ⟨_, pe_dnewK, fun M al σ H δ ω Q S h => ?_⟩
  intro p hp
  have sm := same_upd (o := .dK []) hp
  exact h _ _ (S.same sm) (.same sm) (.map (xs := []) upd_same (fun z => Tr.not hp (S.naT p z)) rfl (Nat.zero_le _) .nil)
/-- {'k': constant, ..} -/
def tcs (ks : List Str) (xs : List V) : List (TE × TE) := (ks.zip xs).map fun p => (tC (.str p.1), tC p.2)
theorem tPairs_tcs {Q : List (V × V) → Hp → Prop} : ∀ (ks : List Str) (xs : List V), Q ((ks.zip xs).map fun p => (.str p.1, p.2)) H → tPairs (tcs ks xs) σ H Q
  | [], _, h => h
  | _ :: _, [], h => h
  | k :: ks, x :: xs, h => tPairs_tcs (Q := fun ps H3 => Q ((.str k, x) :: ps) H3) ks xs h
theorem pd_mapC {keys : List (Option Expr)} {values : List Expr} {ks : List Str} {xs : List V} {ds : List D} (h : PPs X pos keys values (tcs ks xs)) (hr : ∀ sa N H, Reps X.K sa N H xs ds) (nd : mergeK [] (dks ks xs) = dks ks xs) (hlen : ks.length = xs.length) (hx : xs.length ≤ 15)
    (hall : keys.all (·.isSome) = true := by rfl) (hl : keys.length = values.length := by rfl) (h0 : keys ≠ [] := by exact fun z => nomatch z) (h15 : keys.length ≤ 15 := by decide) : PEd X W (.Dict keys values pos) (eC (.map ks ds)) := by
  refine ⟨_, pe_disp h hall hl h0 h15, fun M al σ H δ ω Q S q p hp => tPairs_tcs ks xs ⟨upd_same, dks ks xs, ?_, ?_, ?_⟩⟩
  · unfold dks
    rw [List.map_map]
    rfl
  · unfold dks
    rw [List.length_map, List.length_zip, hlen, Nat.min_self]
    exact hx
  · rw [nd]
    have e : upd (upd H p (.dK [])) p (.dK (dks ks xs)) = upd H p (.dK (dks ks xs)) := by
      funext b
      by_cases hb : b = p
      · rw [hb, upd_same, upd_same]
      · rw [upd_ne hb, upd_ne hb, upd_ne hb]
    rw [e]
    have sm := same_upd (o := .dK (dks ks xs)) hp
    exact q _ _ (S.same sm) (.same sm) (.map (xs := xs) upd_same (fun z => Tr.not hp (S.naT p z)) hlen (Nat.le_trans hx (by decide)) (hr _ _ _))
/-- dict.get(text, e) -/
def eGet2 (fa fb fc : EvE) : EvE := fun δ ω => (fa δ ω).bind fun a ω1 => match a with
  | .map ks ds => (fb δ ω1).bind fun b ω2 => (fc δ ω2).bind fun c ω3 => match b with
    | .str z => .ok ((valD ks ds z).getD c) ω3
    | _ => .bad
  | _ => .bad
theorem pd_get2 {apos : Pos} (hu : X.A.units + 64 < cLine) (ha : PEd X W a fa) (hb : PEd X W b fb) (hc : PEd X W c fc) (m : M2 X a "get" apos b c pos) : PEd X W (.Call (.Attribute a "get" apos) [b, c] [] pos) (eGet2 fa fb fc) := by
  obtain ⟨ta, p1, q1⟩ := ha.ex
  obtain ⟨tb, p2, q2⟩ := hb.ex
  obtain ⟨tc, p3, q3⟩ := hc.ex
  refine ⟨_, pe_dget2 (by omega) p1 p2 p3 m, fun M al σ H δ ω Q S h => ?_⟩
  refine q1 M al σ H δ ω _ S (post_mono (fun x H1 h1 => ?_) (post_bind (rel := relE X.K M al) h))
  obtain ⟨d1, ω1, _, S1, f1, r1, h1⟩ := h1
  split at h1
  · cases r1 with
    | map g n e l r =>
      refine ⟨_, rfl, .inl ⟨_, .inl g⟩, q2 M al σ H1 δ ω1 _ S1 (post_mono (fun y H2 h2 => ?_) (post_bind (rel := relE X.K M al) (post_from f1 h1)))⟩
      obtain ⟨d2, ω2, _, S2, f2, r2, h2⟩ := h2
      refine q3 M al σ H2 δ ω2 _ S2 (post_mono (fun z H3 h3 => ?_) (post_bind (rel := relE X.K M al) (post_from f2 h2)))
      obtain ⟨d3, ω3, _, S3, f3, r3, h3⟩ := h3
      split at h3
      · rename_i zz ee
        cases r2
        have rm := ((Rep.map g n e l r).mono f2 S1.zna).mono f3 S2.zna
        obtain ⟨p, o, ev, gg, q⟩ := dget_of rm zz
        cases ev
        refine ⟨o, gg, ?_⟩
        rcases q with ⟨h1, h2'⟩ | ⟨d', x', h1, h2', r'⟩
        · rw [h2']
          rw [h1] at h3
          exact h3 _ _ S3 f3 r3
        · rw [h2']
          rw [h1] at h3
          exact h3 _ _ S3 f3 r'
      · exact h3.elim
  · exact h1.elim
end
end DL

namespace DL
open PySem PySem.Spec PyProof.Rows L2 LamX
section
variable {X : Cx} {W : Wt} {P : PP} {K : PySem.W.Frag} {M : Fm} {al : Nat → Option Addr} {σ : L2.St} {H : Hp} {δ : Sls} {ω : Om}
variable {a b e c : Expr} {es : List Expr} {fa fb fc : EvE} {ft : EvT} {gb : EvS} {fs : EvA} {pos : Pos}
/-! ### while -/
def whileF : Nat → EvT → EvS → EvS
  | 0, _, _ => fun _ _ => .bad
  | n + 1, t, b => fun δ ω => (t δ ω).bind fun c ω1 => if c = true then (b δ ω1).bind fun fl ω2 => (match fl with
      | .nx δ2 => whileF n t b δ2 ω2
      | .ct δ2 => whileF n t b δ2 ω2
      | .bk δ2 => .ok (.nx δ2) ω2
      | .rt d => .ok (.rt d) ω2) else .ok (.nx δ) ω1
theorem while_ok {tt : TT} {tb : TS} {D : Ends} {n : Nat} (ht : ∀ M al σ H δ ω Q, DSt K W.P M al σ H δ ω → PostR K M al σ H δ relT (ft δ ω) Q W → tt σ H Q)
    (hb : ∀ M al σ H δ ω D, DSt K W.P M al σ H δ ω → PostS K M al H (gb δ ω) D W → tb D σ H) (S : DSt K W.P M al σ H δ ω) (h : PostS K M al H (whileF n ft gb δ ω) D W) : tWhile tt tb D σ H := by
  refine ⟨fun m σ' H' => ∃ al' δ' ω', DSt K W.P M al' σ' H' δ' ω' ∧ FrS M al H H' ∧ AlExt H al al' ∧ PostS K M al' H' (whileF m ft gb δ' ω') D W, ⟨n, al, δ, ω, S, Fr.refl H, AlExt.refl, h⟩, ?_⟩
  rintro m σ1 H1 ⟨al1, δ1, ω1, S1, f1, x1, h1⟩
  cases m with
  | zero => exact (show False from h1).elim
  | succ m =>
    unfold whileF at h1
    refine ht M al1 σ1 H1 δ1 ω1 _ S1 (post_mono (fun bv H2 h2 => ?_) (posts_bind (rel := relT) S1.fr h1))
    obtain ⟨bt, ω2, e1, S2, f2, rfl, h2⟩ := h2
    have fs2 : FrS M al1 H1 H2 := f2.s
    have x2 : AlExt H1 al1 al1 := AlExt.refl
    cases bv with
    | false =>
      rw [if_neg (by decide)] at h2 ⊢
      exact h2 al1 σ1 H2 S2 fs2 x2
    | true =>
      rw [if_pos rfl] at h2 ⊢
      refine ⟨fun σ' H' => ∃ al' δ' ω', DSt K W.P M al' σ' H' δ' ω' ∧ FrS M al H H' ∧ AlExt H al al' ∧ PostS K M al' H' (whileF m ft gb δ' ω') D W, fun σ'' H'' z => ⟨m, Nat.lt_succ_self m, z⟩, ?_⟩
      refine hb M al1 σ1 H2 δ1 ω2 _ S2 ?_
      have f02 : FrS M al H H2 := f1.trans x1 fs2
      have x02 : AlExt H al al1 := x1
      cases er : gb δ1 ω2 with
      | ok fl ω3 =>
        rw [er] at h2
        cases fl with
        | nx δ3 => exact fun al3 σ3 H3 S4 f3 x3 => ⟨al3, δ3, ω3, S4, f02.trans x02 f3, x02.trans f02 x3, posts_from (fs2.trans x2 f3) (x2.trans fs2 x3) h2⟩
        | ct δ3 => exact fun al3 σ3 H3 S4 f3 x3 => ⟨al3, δ3, ω3, S4, f02.trans x02 f3, x02.trans f02 x3, posts_from (fs2.trans x2 f3) (x2.trans fs2 x3) h2⟩
        | bk δ3 => exact fun al3 σ3 H3 S4 f3 x3 => h2 al3 σ3 H3 S4 (fs2.trans x2 f3) (x2.trans fs2 x3)
        | rt d => exact h2
      | err z ω3 => rw [er] at h2; exact h2
      | bad => rw [er] at h2; exact h2
/-- n: more turns than there can be -/
theorem sd_while {body : List Stmt} (n : Nat) (hp : PassesOwn (model X.prog X.w) X.A X.env X.xe) (hc : PTd X W c ft) (hb : PSsd X W body gb) : PSd X W (.While c body [] pos) (whileF n ft gb) := by
  obtain ⟨t, p1, q1⟩ := hc.ex
  obtain ⟨t2, p2, q2⟩ := hb.ex
  exact ⟨_, ps_while hp p1 p2, fun M al σ H δ ω D S h => while_ok q1 q2 S h⟩
theorem whileF_step {n : Nat} {δ1 δ2 : Sls} {ω1 ω2 : Om} (h1 : ft δ ω = .ok true ω1) (h2 : gb δ ω1 = .ok (.nx δ1) ω2) : whileF (n + 1) ft gb δ ω = whileF n ft gb δ1 ω2 := by
  show (ft δ ω).bind _ = _
  rw [h1]
  rw [Rs.bind_ok, if_pos rfl, h2]
  rfl
theorem whileF_ct {n : Nat} {δ1 δ2 : Sls} {ω1 ω2 : Om} (h1 : ft δ ω = .ok true ω1) (h2 : gb δ ω1 = .ok (.ct δ1) ω2) : whileF (n + 1) ft gb δ ω = whileF n ft gb δ1 ω2 := by
  show (ft δ ω).bind _ = _
  rw [h1]
  rw [Rs.bind_ok, if_pos rfl, h2]
  rfl
theorem whileF_stop {n : Nat} {ω1 : Om} (h1 : ft δ ω = .ok false ω1) : whileF (n + 1) ft gb δ ω = .ok (.nx δ) ω1 := by
  show (ft δ ω).bind _ = _
  rw [h1]
  rfl
end
end DL

namespace DL
open PySem PySem.Spec PyProof.Rows L2 LamX
section
variable {X : Cx} {W : Wt} {P : PP} {K : PySem.W.Frag} {M : Fm} {al : Nat → Option Addr} {σ : L2.St} {H : Hp} {δ : Sls} {ω : Om}
variable {a b e c : Expr} {es : List Expr} {fa fb fc : EvE} {ft : EvT} {gb : EvS} {fs : EvA} {pos : Pos}
/-! ### == with what is empty, or has one scalar item: whatever the other holds -/
def eqShort (xs ys : List V) : Option Bool := match xs, ys with
  | xs, [] => some xs.isEmpty
  | x :: xs, [y] => if flatV x = true ∧ flatV y = true then some (eqV x y && xs.isEmpty) else none
  | _, _ => none
def rEqT (K : PySem.W.Frag) (neg : Bool) : R2 := fun x y H Q => ∃ a b xs ys t, x = .ref a ∧ y = .ref b ∧ ((SqT K H a xs ∧ SqT K H b ys ∧ eqShort xs ys = some t) ∨ (SqL K H a xs ∧ SqL K H b [] ∧ t = xs.isEmpty)) ∧ Q (.bl (neg ^^ t)) H
theorem short_run {A : Around} {s : Shared} {xs ys : List V} {us ws : List Value} {t : Bool} (rx : Vals xs us) (ry : Vals ys ws) (h : eqShort xs ys = some t) :
    ∃ e : Nat → Bool, (∀ j (h1 : j < us.toArray.size) (h2 : j < ws.toArray.size), SeqAt.EqAt A s us.toArray[j] ws.toArray[j] (e j)) ∧ ((List.range (min us.toArray.size ws.toArray.size)).all e && us.toArray.size == ws.toArray.size) = t := by
  unfold eqShort at h
  split at h
  · cases ry
    have e0 := Option.some.inj h
    subst e0
    refine ⟨fun _ => true, fun j h1 h2 => absurd h2 (Nat.not_lt_zero j), ?_⟩
    cases rx <;> rfl
  · rename_i x xs' y
    split at h
    · rename_i hf
      have e0 := Option.some.inj h
      subst e0
      cases rx with
      | cons r1 rs =>
        rename_i u us'
        obtain ⟨w, rfl, rw⟩ := ry.one
        refine ⟨fun _ => eqV x y, fun j h1 h2 => ?_, ?_⟩
        · have hj : j = 0 := by
            have : j < 1 := h2
            omega
          subst hj
          exact eqAt_V r1 rw hf.1 hf.2
        · have hl := rs.length
          have hm : min ((u :: us').toArray.size) ([w].toArray.size) = 1 := by
            show min (us'.length + 1) 1 = 1
            omega
          rw [hm]
          show ((eqV x y && true) && ((us'.length + 1) == 1)) = _
          rw [Bool.and_true]
          congr 1
          cases rs <;> rfl
    · cases h
  · cases h
theorem op_eqT (hu : X.A.units + 64 < cLine) : OpR X (compareOp .Eq) (rEqT X.K false) := by
  intro pins s σ H x y v u Q I rx ry h
  obtain ⟨a, b, xs, ys, t, rfl, rfl, hq, q⟩ := h
  cases rx
  cases ry
  have q' : Q (.bl t) H := by simpa using q
  rcases hq with ⟨h1, h2, h3⟩ | ⟨h1, h2, rfl⟩
  · obtain ⟨its, r, pl, hz⟩ := I.tuple h1
    obtain ⟨its2, r2, pl2, hz2⟩ := I.tuple h2
    obtain ⟨e, he, et⟩ := short_run (A := X.A.in1) (s := s) r r2 h3
    refine SeqAt.eq_tupleAt pl pl2 (by omega) he ?_
    rw [et]
    exact ⟨.bl _, H, I, rfl, q'⟩
  · obtain ⟨its, r, pl, hz⟩ := I.list h1
    obtain ⟨its2, r2, pl2, hz2⟩ := I.list h2
    cases r2
    cases r with
    | nil => exact SeqAt.eq_listAt (e := fun _ => true) pl.isList pl2.isList rfl (by omega) (fun j h1 h2 => absurd h2 (Nat.not_lt_zero j)) ⟨.bl _, H, I, rfl, q'⟩
    | cons r1 rs => exact SeqAt.eq_list_lengthsAt pl.isList pl2.isList (by simp) (by omega) ⟨.bl _, H, I, rfl, q'⟩
theorem op_neT (hu : X.A.units + 64 < cLine) : OpR X (compareOp .NotEq) (rEqT X.K true) := by
  intro pins s σ H x y v u Q I rx ry h
  obtain ⟨a, b, xs, ys, t, rfl, rfl, hq, q⟩ := h
  cases rx
  cases ry
  have q' : Q (.bl (!t)) H := by simpa using q
  rcases hq with ⟨h1, h2, h3⟩ | ⟨h1, h2, rfl⟩
  · obtain ⟨its, r, pl, hz⟩ := I.tuple h1
    obtain ⟨its2, r2, pl2, hz2⟩ := I.tuple h2
    obtain ⟨e, he, et⟩ := short_run (A := X.A.in1) (s := s) r r2 h3
    refine SeqAt.RcNeAt.tuples pl pl2 (by omega) he X.prog X.w _ _ ?_
    rw [et]
    exact ⟨.bl _, H, I, rfl, q'⟩
  · obtain ⟨its, r, pl, hz⟩ := I.list h1
    obtain ⟨its2, r2, pl2, hz2⟩ := I.list h2
    cases r2
    cases r with
    | nil => exact SeqAt.RcNeAt.lists (e := fun _ => true) pl.isList pl2.isList rfl (by omega) (fun j h1 h2 => absurd h2 (Nat.not_lt_zero j)) X.prog X.w _ _ ⟨.bl _, H, I, rfl, q'⟩
    | cons r1 rs => exact SeqAt.RcNeAt.lists_lengths pl.isList pl2.isList (by simp) (by omega) X.prog X.w _ _ ⟨.bl _, H, I, rfl, q'⟩
def gEqT (neg : Bool) : D → D → Option D
  | .tup ds, .tup [] => some (.bl (neg ^^ ds.isEmpty))
  | .tup (d :: ds), .tup [e] => match dScal d, dScal e with
    | some x, some y => some (.bl (neg ^^ (eqV x y && ds.isEmpty)))
    | _, _ => none
  | .lst ds, .lst [] => some (.bl (neg ^^ ds.isEmpty))
  | _, _ => none
theorem o_eqT {neg : Bool} : Op2 K (rEqT K neg) (gEqT neg) := ⟨fun sa N H x y a b d Q ra rb e nt k => by
  unfold gEqT at e
  split at e
  · cases e
    cases ra with
    | tup h l r =>
      cases rb with
      | tup h2 l2 r2 =>
        cases r2
        refine ⟨_, _, _, _, _, rfl, rfl, .inl ⟨h, h2, rfl⟩, ?_⟩
        cases r <;> exact k _ _ (Same.refl _) (.bl _)
  · split at e
    · rename_i x' y' hx hy
      cases e
      cases ra with
      | tup h l r =>
        cases rb with
        | tup h2 l2 r2 =>
          cases r with
          | cons r1 rs =>
            obtain ⟨w, rfl, rw⟩ := r2.one
            have e1 := dScal_rep r1 hx
            have e2 := dScal_rep rw hy
            subst e1 e2
            refine ⟨_, _, _, _, _, rfl, rfl, .inl ⟨h, h2, if_pos ⟨dScal_flat hx, dScal_flat hy⟩⟩, ?_⟩
            cases rs <;> exact k _ _ (Same.refl _) (.bl _)
    · cases e
  · cases e
    cases ra with
    | lst h n l r =>
      cases rb with
      | lst h2 n2 l2 r2 =>
        cases r2
        refine ⟨_, _, _, [], _, rfl, rfl, .inr ⟨SqL.of h, SqL.of h2, rfl⟩, ?_⟩
        cases r <;> exact k _ _ (Same.refl _) (.bl _)
  · cases e⟩
abbrev gEqX : D → D → Option D := fun a b => (gEqT false a b).or (gEq a b)
abbrev gNeX : D → D → Option D := fun a b => (gEqT true a b).or (gNe a b)
theorem c_eqX (hu : X.A.units + 64 < cLine) : OpR X (compareOp .Eq) (fun x y H Q => rEqT X.K false x y H Q ∨ (rEq x y H Q ∨ rEqD X.K x y H Q)) := (op_eqT hu).or (c_eq hu)
theorem c_neX (hu : X.A.units + 64 < cLine) : OpR X (compareOp .NotEq) (fun x y H Q => rEqT X.K true x y H Q ∨ (rNe x y H Q ∨ rNeD X.K x y H Q)) := (op_neT hu).or (c_ne hu)
theorem o_eqX : Op2 K (fun x y H Q => rEqT K false x y H Q ∨ (rEq x y H Q ∨ rEqD K x y H Q)) gEqX := o_eqT.or o_eq
theorem o_neX : Op2 K (fun x y H Q => rEqT K true x y H Q ∨ (rNe x y H Q ∨ rNeD K x y H Q)) gNeX := o_eqT.or o_ne
/-! ### in, of data, in a list or a tuple -/
def rInA (K : PySem.W.Frag) (neg : Bool) : R2 := fun x y H Q => ∃ d ds, Dp K H x d ∧ (Dp K H y (.list ds) ∨ Dp K H y (.tuple ds)) ∧ SeqAt.shaped d = true ∧ PyData.canLayAll0 ds = true ∧ Q (.bl (neg ^^ ds.any fun z => PyData.eqv z d)) H
theorem room_in1 {A : Around} {d : PyData} {ds : List PyData} (h : SeqAt.shaped d = true) (hu : A.units + 65 < cLine) : A.units + 1 + min (PyData.depthAll ds) d.depth < cLine := by
  have h1 := SeqAt.depth_of_shaped h
  have h2 : min (PyData.depthAll ds) d.depth ≤ d.depth := Nat.min_le_right _ _
  omega
theorem op_inA (hu : X.A.units + 65 < cLine) : OpR X (compareOp .In) (rInA X.K false) := by
  intro pins s σ H x y v u Q I rx ry h
  obtain ⟨d, ds, hd, he, sd, se, q⟩ := h
  have q' : Q (.bl (ds.any fun z => PyData.eqv z d)) H := by simpa using q
  obtain ⟨as, r1⟩ := Dp.reads I d x v hd rx
  rcases he with he | he
  · obtain ⟨bs, r2⟩ := Dp.reads I _ y u he ry
    exact SeqAt.in_list_reads r2 r1 se (SeqAt.canLay_of_shaped sd) (room_in1 sd hu) ⟨.bl _, H, I, rfl, q'⟩
  · obtain ⟨bs, r2⟩ := Dp.reads I _ y u he ry
    exact SeqAt.in_tuple_reads r2 r1 se (SeqAt.canLay_of_shaped sd) (room_in1 sd hu) ⟨.bl _, H, I, rfl, q'⟩
theorem op_notInA (hu : X.A.units + 65 < cLine) : OpR X (compareOp .NotIn) (rInA X.K true) := by
  intro pins s σ H x y v u Q I rx ry h
  obtain ⟨d, ds, hd, he, sd, se, q⟩ := h
  have q' : Q (.bl (!ds.any fun z => PyData.eqv z d)) H := by simpa using q
  obtain ⟨as, r1⟩ := Dp.reads I d x v hd rx
  rcases he with he | he
  · obtain ⟨bs, r2⟩ := Dp.reads I _ y u he ry
    exact SeqAt.notIn_list_reads r2 r1 se (SeqAt.canLay_of_shaped sd) (room_in1 sd hu) ⟨.bl _, H, I, rfl, q'⟩
  · obtain ⟨bs, r2⟩ := Dp.reads I _ y u he ry
    exact SeqAt.notIn_tuple_reads r2 r1 se (SeqAt.canLay_of_shaped sd) (room_in1 sd hu) ⟨.bl _, H, I, rfl, q'⟩
def itemsLT : D → Option (List D)
  | .lst ds => some ds
  | .tup ds => some ds
  | _ => none
def gInA (neg : Bool) : D → D → Option D := fun a b => match toPy a, (itemsLT b).bind toPy.toPyL with
  | some d, some ds => if SeqAt.shaped d = true ∧ PyData.canLayAll0 ds = true then some (.bl (neg ^^ ds.any fun z => PyData.eqv z d)) else none
  | _, _ => none
theorem o_inA {neg : Bool} : Op2 K (rInA K neg) (gInA neg) := ⟨fun sa N H x y a b d Q ra rb e nt k => by
  unfold gInA at e
  split at e
  · rename_i p ps hp hps
    split at e
    · rename_i hc
      cases e
      refine ⟨p, ps, ra.dp hp, ?_, hc.1, hc.2, k _ _ (Same.refl _) (.bl _)⟩
      cases rb with
      | lst h n l r => exact .inl (.lst (SqL.of h) (r.dp hps))
      | tup h l r => exact .inr (.tup h (r.dp hps))
      | _ => cases hps
    · cases e
  · cases e⟩
/-! ### in, of scalars, in a list or a tuple -/
def gInV (neg : Bool) : D → D → Option D := fun a b => match dScal a, (itemsLT b).bind scalsD with
  | some x, some xs => some (.bl (if neg then !inV x xs else inV x xs))
  | _, _ => none
theorem o_inV {neg : Bool} : Op2 K (rIn K neg) (gInV neg) := ⟨fun sa N H x y a b d Q ra rb e nt k => by
  unfold gInV at e
  split at e
  · rename_i x' xs hx hxs
    cases e
    have ex := dScal_rep ra hx
    subst ex
    cases rb with
    | lst h n l r =>
      have exs := scals_rep r hxs
      subst exs
      exact ⟨_, _, rfl, .inl (SqL.of h), dScal_flat hx, scals_flat hxs, k _ _ (Same.refl _) (.bl _)⟩
    | tup h l r =>
      have exs := scals_rep r hxs
      subst exs
      exact ⟨_, _, rfl, .inr h, dScal_flat hx, scals_flat hxs, k _ _ (Same.refl _) (.bl _)⟩
    | _ => cases hxs
  · cases e⟩
/-! ### is True, is False -/
def rIsV (neg : Bool) : R2 := fun x y H Q => ∃ c : Bool, y = .bl c ∧ flatV x = true ∧ Q (.bl (neg ^^ decide (x = .bl c))) H
def gIsB : D → D → Option D := fun a b => match dScal a, b with
  | some x, .bl c => some (.bl (decide (x = .bl c)))
  | _, _ => none
theorem op_isV : OpR X (compareOp .Is) (rIsV false) := by
  intro pins s σ H x y v u Q I rx ry h
  obtain ⟨c, rfl, fx, q⟩ := h
  have q' : Q (.bl (decide (x = .bl c))) H := by simpa using q
  cases (show u = Value.bool c from ry)
  cases x with
  | bl d => exact op_isBl pins s σ H (.bl d) (.bl c) v _ Q I rx rfl ⟨d, c, rfl, rfl, by simpa using q'⟩
  | non =>
    cases (show v = Value.none from rx)
    exact wpAny_is_other rfl (fun z => nomatch z) ⟨.bl false, H, I, rfl, by simpa using q'⟩
  | int i =>
    obtain ⟨t, rfl⟩ := rx
    exact wpAny_is_other rfl (fun z => nomatch z) ⟨.bl false, H, I, rfl, by simpa using q'⟩
  | str z =>
    obtain ⟨t, rfl⟩ := rx
    exact wpAny_is_other rfl (fun z => nomatch z) ⟨.bl false, H, I, rfl, by simpa using q'⟩
  | _ => exact absurd (show false = true from fx) Bool.false_ne_true
theorem o_isB : Op2 K (rIsV false) gIsB := ⟨fun sa N H x y a b d Q ra rb e nt k => by
  unfold gIsB at e
  split at e
  · rename_i x' c hx
    cases e
    have ex := dScal_rep ra hx
    subst ex
    cases rb
    exact ⟨c, rfl, dScal_flat hx, by simpa using k _ _ (Same.refl _) (.bl _)⟩
  · cases e⟩
/-! ### a tuple times a number -/
def gRepT : D → D → Option D
  | .tup ds, .int k => if ds ≠ [] ∧ 2 ≤ k ∧ k ≤ 1000 ∧ ds.length ≤ 1000 ∧ ds.length * k.toNat ≤ sizeLine then some (.tup (List.replicate k.toNat ds).flatten) else none
  | _, _ => none
theorem o_repT : Op2 K (rRepT K) gRepT := ⟨fun sa N H x y a b d Q ra rb e nt k => by
  unfold gRepT at e
  split at e
  · split at e
    · rename_i ds i hc
      obtain ⟨h0, h1, h2, h3, h4⟩ := hc
      cases e
      cases rb
      cases ra with
      | tup h l r =>
        have hl : (List.replicate i.toNat ds).flatten.length ≤ sizeLine := by
          rw [List.length_flatten, List.map_replicate, List.sum_replicate_nat, Nat.mul_comm]
          exact h4
        have hr := reps_rep r i.toNat
        refine ⟨_, _, _, rfl, rfl, h, fun z => h0 (List.eq_nil_of_length_eq_zero (by rw [← r.len, z]; rfl)), h1, h2, by rw [r.len]; exact h3, fun p hp => k _ _ (same_upd hp) (.tup (SqT.of upd_same) (by rw [hr.len]; exact hl) (same_reps (same_upd hp) hr))⟩
    · cases e
  · cases e⟩
/-! ### a list, a tuple from behind -/
def eRevL (fa : EvE) : EvE := fun δ ω => (fa δ ω).bind fun d ω1 => match d with
  | .lst ds => .ok (.lst ds.reverse) ω1
  | _ => .bad
theorem Reps.rev {sa : Addr} {N : Addr → Prop} {H : Hp} : ∀ {xs : List V} {ds : List D}, Reps K sa N H xs ds → Reps K sa N H xs.reverse ds.reverse
  | _, _, .nil => .nil
  | _, _, .cons r rs => by
    rw [List.reverse_cons, List.reverse_cons]
    exact rs.rev.app (.cons r .nil)
theorem pd_revL {k : Nat} {p1 p2 p3 : Pos} (he : PEd X W e fa) : PEd X W (.Subscript e (.Slice none none (some (.UnaryOp .USub (.Constant (.int 1) k p1) p2)) p3) pos) (eRevL fa) := by
  obtain ⟨t, p, q⟩ := he.ex
  refine ⟨_, pe_revL p, fun M al σ H δ ω Q S h => ?_⟩
  refine q M al σ H δ ω _ S (post_mono (fun x H1 h1 => ?_) (post_bind (rel := relE X.K M al) h))
  obtain ⟨d1, ω1, e1, S1, f1, r1, h1⟩ := h1
  cases r1 with
  | lst h n l r => exact ⟨_, _, rfl, SqL.of h, fun p hp => h1 _ _ (S1.same (same_upd hp)) (f1.trans (.same (same_upd hp))) (new_ok S1.naT hp (by rw [List.length_reverse]; exact l) r.rev)⟩
  | _ => exact h1.elim
theorem adjust_rev (n : Nat) : Builtin.Slice.sliceAdjust none none (-1) (n : Int) = ((n : Int) - 1, -1) := rfl
theorem places_rev (n : Nat) : Builtin.Slice.slicePlaces ((n : Int) - 1) (-1) (-1) = n := by
  unfold Builtin.Slice.slicePlaces
  rw [if_neg (by decide)]
  by_cases h : (n : Int) - 1 > -1
  · rw [if_pos h]
    have e : ((n : Int) - 1 - -1 - 1) / (- -1) + 1 = (n : Int) := by
      show ((n : Int) - 1 - -1 - 1) / 1 + 1 = _
      rw [Int.ediv_one]
      omega
    rw [e]
    exact Int.toNat_natCast n
  · rw [if_neg h]
    show 0 = n
    omega
theorem fm_congr {α β : Type} {f g : α → Option β} : ∀ {l : List α}, (∀ x ∈ l, f x = g x) → l.filterMap f = l.filterMap g
  | [], _ => rfl
  | a :: l, h => by
    rw [List.filterMap_cons, List.filterMap_cons, h a List.mem_cons_self, fm_congr fun x hx => h x (List.mem_cons_of_mem _ hx)]
theorem pick_rev {α : Type} (xs : List α) : (List.range xs.length).filterMap (fun (k : Nat) => xs[((xs.length : Int) - 1 + (k : Int) * -1).toNat]?) = xs.reverse := by
  refine List.ext_getElem? fun i => ?_
  have e1 : (List.range xs.length).filterMap (fun (k : Nat) => xs[((xs.length : Int) - 1 + (k : Int) * -1).toNat]?) = (List.range xs.length).filterMap (fun k => xs.reverse[k]?) := by
    refine fm_congr fun k hk => ?_
    have hk := List.mem_range.mp hk
    rw [List.getElem?_reverse hk]
    congr 1
    omega
  rw [e1]
  have e2 : (List.range xs.length).filterMap (fun k => xs.reverse[k]?) = xs.reverse := by
    have := PySem.W.krv_all xs.reverse.toArray
    simpa using this
  rw [e2]
theorem getItem_tuple_rev {P : Program} {w : World} {A : Around} {E : Value → Shared → Prop} {s : Shared} {t sl : Addr} {items : List Value} {vs : Value} {Q : Value → Shared → Prop} (ht : IsTup s.heap t items.toArray) (hs : s.heap.IsSliceOf sl .none .none vs) (ps : IsPart vs (some (-1)))
    (h : Q (.ref s.heap.objs.size) { s with heap := s.heap.push { cls := .type "tuple", data := .seq items.reverse.toArray } })
    (hsz : items.length ≤ sizeLine) : wpAny (model P w) A (getItem (.ref t) (.ref sl)) Q E s := by
  have htake : sizeOk (.seq items.reverse.toArray) := by
    show items.reverse.toArray.size ≤ sizeLine
    rw [List.size_toArray, List.length_reverse]
    exact hsz
  obtain ⟨os, hos, hcs, hds⟩ := id hs
  have hTs : s.TypeIs (.ref sl) "slice" := ⟨os, hos, hcs⟩
  unfold getItem
  try with_reducible refine wpAny_holding ?_
  first | refine wpAny_bind (wpAny_pure ?_) | skip
  refine wpAny_bind (wpAny_sequenceKey ht.typeIs (by decide) ?_)
  refine wpAny_bind (wpAny_callSpecial?_slot (name := Str.ofString "__getitem__") ht.typeIs PyProof.Rows.slot_tuple_getitem
    (wpAny_call_entry PyProof.Rows.slot_tuple_getitem ht.typeIs entry_tuple_getitem ?_ (args_tuple_getitem _ _)))
  show wpAny _ _ (Builtin.Tuple.tupleItemsOf (.ref t) >>= _) _ _ s
  refine wpAny_bind (PyProof.Rows.tupleItemsOf_ ht ?_)
  refine wpAny_bind (wpAny_typeOf hTs ?_)
  rw [if_pos (by decide)]
  have ha : ∀ (A : Around) (Q' : Int × Int × Nat → Shared → Prop), Q' ((items.toArray.size : Int) - 1, -1, items.toArray.size) s → wpAny (model P w) A (Builtin.Slice.sliceApplied (.ref sl) (pure (items.toArray.size : Int))) Q' E s := fun A Q' hq => by
    unfold Builtin.Slice.sliceApplied Builtin.Slice.sliceFields
    refine wpAny_bind (wpAny_bind (wpAny_field hos hds (x := .none) rfl (wpAny_bind (wpAny_field hos hds (x := .none) rfl (wpAny_bind (wpAny_field hos hds (x := vs) rfl (wpAny_pure ?_)))))))
    refine wpAny_bind (HT.slicePart_ ps ?_)
    show wpAny _ _ (if ((-1 : Int) == 0) = true then _ else _) _ _ s
    rw [if_neg (by decide)]
    refine wpAny_bind (HT.slicePart_ .none (wpAny_bind (HT.slicePart_ .none (wpAny_bind (wpAny_pure ?_)))))
    show wpAny _ _ (match Builtin.Slice.sliceAdjust none none (-1) (items.toArray.size : Int) with | (lo, hi) => pure (lo, (-1 : Int), Builtin.Slice.slicePlaces lo hi (-1))) _ _ s
    rw [adjust_rev]
    show wpAny _ _ (pure ((items.toArray.size : Int) - 1, (-1 : Int), Builtin.Slice.slicePlaces ((items.toArray.size : Int) - 1) (-1) (-1))) _ _ s
    rw [places_rev]
    exact wpAny_pure hq
  refine wpAny_bind (ha _ _ ?_)
  have hno : ¬ ((((items.toArray.size : Int) - 1) == 0 && (-1 : Int) == 1 && items.toArray.size == items.toArray.size) = true) := by
    intro q
    rw [Bool.and_eq_true, Bool.and_eq_true] at q
    exact absurd q.1.2 (by decide)
  show wpAny _ _ (if (((items.toArray.size : Int) - 1) == 0 && (-1 : Int) == 1 && items.toArray.size == items.toArray.size) = true then _ else _) _ _ s
  have ep : ((List.range items.toArray.size).filterMap fun (k : Nat) => items.toArray[((items.toArray.size : Int) - 1 + (k : Int) * -1).toNat]?).toArray = items.reverse.toArray := by
    have := pick_rev items
    simpa using this
  rw [if_neg hno, ep]
  first
    | exact wpAny_bind (m := Builtin.Tuple.tupleExact _) (wpAny_newObj_type (wpAny_pure ⟨_, rfl, wpAny_pure h⟩) htake)
    | exact wpAny_bind (m := Builtin.Tuple.tupleExact _) (wpAny_newObj_type (wpAny_bind (wpAny_pure (wpAny_pure ⟨_, rfl, wpAny_pure h⟩))) htake)
    | exact wpAny_bind (wpAny_bind (m := Builtin.Tuple.tupleExact _) (wpAny_newObj_type (wpAny_pure (wpAny_pure ⟨_, rfl, wpAny_pure h⟩)) htake))
    | exact wpAny_bind (wpAny_bind (m := Builtin.Tuple.tupleExact _) (wpAny_newObj_type (wpAny_pure ⟨_, rfl, wpAny_pure h⟩) htake))
def tRevT (K : PySem.W.Frag) (te : TE) : TE := fun σ H Q => te σ H fun x H1 => ∃ a xs, x = .ref a ∧ SqT K H1 a xs ∧ ∀ p, H1 p = none → Q (.ref p) (upd H1 p (.tup xs.reverse))
theorem pe_revT {e : Expr} {te : TE} {k : Nat} {p1 p2 p3 pos : Pos} (he : PE X e te) : PE X (.Subscript e (.Slice none none (some (.UnaryOp .USub (.Constant (.int 1) k p1) p2)) p3) pos) (tRevT X.K te) := by
  refine ⟨fun pins s σ H Q I h => ?_⟩
  refine Subscript_ (thn (he.run pins s σ H _ I h) fun v s1 ⟨x, H1, I1, r1, q1⟩ => ?_)
  obtain ⟨a, xs, ex, hx, q⟩ := q1
  subst ex
  cases r1
  have hst : PO X (some (.UnaryOp .USub (.Constant (.int 1) k p1) p2)) (tPart (tUn (rU fun i => .int (-i)) (tC (.int 1)))) := po_some (pe_un un_neg pe_int)
  refine wpAny_Slice (thn (po_none.run pins s1 σ H1 (fun o H2 => o = none ∧ H2 = H1) I1 ⟨rfl, rfl⟩) fun vl s2 ⟨l, H2, I2, pl, el, e2⟩ => ?_)
  subst el e2
  refine thn (po_none.run pins s2 σ H2 (fun o H3 => o = none ∧ H3 = H2) I2 ⟨rfl, rfl⟩) fun vu s3 ⟨u, H3, I3, pu, eu, e3⟩ => ?_
  subst eu e3
  refine thn (hst.run pins s3 σ H3 (fun o H4 => o = some (-1) ∧ H4 = H3) I3 ⟨1, rfl, -1, rfl, rfl, rfl⟩) fun vs s4 ⟨o, H4, I4, ps, eo, e4⟩ => ?_
  subst eo e4
  have I5 : Inv X pins σ H4 { s4 with heap := s4.heap.push { cls := .type "slice", data := .fields #[vl, vu, vs] } } := I4.kept (t' := s4.toks) fun b ob q => Heap.get?_push_of_some _ q
  obtain ⟨its, r, ht, hz⟩ := I5.tuple hx
  have hlen := r.length
  show wpAny (model X.prog X.w) X.A (subscriptTail e (.Slice none none (some (.UnaryOp .USub (.Constant (.int 1) k p1) p2)) p3) (.ref a) (.ref s4.heap.objs.size)) (EP X pins σ Q) X.xe { s4 with heap := s4.heap.push { cls := .type "slice", data := .fields #[vl, vu, vs] } }
  cases pl
  cases pu
  refine tail_any (ops := [.ref a, .ref s4.heap.objs.size]) ht.typeIs (PyProof.Rows.slot_tuple_getitem.lookup) ?_ (by with_unfolding_all rfl)
  refine getItem_tuple_rev ht (Heap.IsSliceOf.new _ .none .none vs) ps ?_ (by omega)
  refine ⟨.ref _, _, I5.laid (t' := s4.toks) (o := .tup xs.reverse) (fun b ob q => Heap.get?_push_of_some _ q) (Nat.le_refl _) ?_, rfl, q _ (I5.hok.fresh (Nat.le_refl _))⟩
  exact ⟨by rw [List.length_reverse]; omega, _, r.reverse, ⟨_, Heap.get?_push_size _ rfl, rfl, 0, rfl⟩⟩
def eRevT (fa : EvE) : EvE := fun δ ω => (fa δ ω).bind fun d ω1 => match d with
  | .tup ds => .ok (.tup ds.reverse) ω1
  | _ => .bad
theorem pd_revT {k : Nat} {p1 p2 p3 : Pos} (he : PEd X W e fa) : PEd X W (.Subscript e (.Slice none none (some (.UnaryOp .USub (.Constant (.int 1) k p1) p2)) p3) pos) (eRevT fa) := by
  obtain ⟨t, p, q⟩ := he.ex
  refine ⟨_, pe_revT p, fun M al σ H δ ω Q S h => ?_⟩
  refine q M al σ H δ ω _ S (post_mono (fun x H1 h1 => ?_) (post_bind (rel := relE X.K M al) h))
  obtain ⟨d1, ω1, e1, S1, f1, r1, h1⟩ := h1
  cases r1 with
  | tup h l r => exact ⟨_, _, rfl, h, fun p hp => h1 _ _ (S1.same (same_upd hp)) (f1.trans (.same (same_upd hp))) (.tup (SqT.of upd_same) (by rw [List.length_reverse]; exact l) (same_reps (same_upd hp) r.rev))⟩
  | _ => exact h1.elim
end
end DL

namespace DL
open PySem PySem.Spec PyProof.Rows L2 LamX
/-- a datum that nothing can change -/
def pureD : D → Bool
  | .non => true
  | .bl _ => true
  | .int _ => true
  | .str _ => true
  | .ty _ => true
  | .glo _ => true
  | .tup ds => pureL ds
  | _ => false
where pureL : List D → Bool
  | [] => true
  | d :: ds => pureD d && pureL ds
mutual
theorem Rep.pure {K : PySem.W.Frag} {sa sa' : Addr} {N N' : Addr → Prop} {H : Hp} : ∀ {v : V} {d : D}, Rep K sa N H v d → pureD d = true → Rep K sa' N' H v d
  | _, _, .non, _ => .non
  | _, _, .bl b, _ => .bl b
  | _, _, .int i, _ => .int i
  | _, _, .str x, _ => .str x
  | _, _, .ty n, _ => .ty n
  | _, _, .glo x, _ => .glo x
  | _, _, .tup h l r, e => .tup h l (Reps.pure r e)
  | _, _, .lst _ _ _ _, e => nomatch (show false = true from e)
  | _, _, .scr _ _, e => nomatch (show false = true from e)
  | _, _, .scrL _ _ _, e => nomatch (show false = true from e)
  | _, _, .st, e => nomatch (show false = true from e)
  | _, _, .map _ _ _ _ _, e => nomatch (show false = true from e)
  | _, _, .exc0 _, e => nomatch (show false = true from e)
  | _, _, .exc1 _ _ _, e => nomatch (show false = true from e)
theorem Reps.pure {K : PySem.W.Frag} {sa sa' : Addr} {N N' : Addr → Prop} {H : Hp} : ∀ {vs : List V} {ds : List D}, Reps K sa N H vs ds → pureD.pureL ds = true → Reps K sa' N' H vs ds
  | _, _, .nil, _ => .nil
  | _, _, .cons (d := d) (ds := ds) r rs, e => by
    have e' : (pureD d && pureD.pureL ds) = true := e
    rw [Bool.and_eq_true] at e'
    exact .cons (Rep.pure r e'.1) (Reps.pure rs e'.2)
end
section
variable {X : Cx} {W : Wt} {P : PP} {K : PySem.W.Frag} {M : Fm} {al : Nat → Option Addr} {σ : L2.St} {H : Hp} {δ : Sls} {ω : Om}
variable {a b e c : Expr} {es : List Expr} {fa fb fc : EvE} {ft : EvT} {gb : EvS} {fs : EvA} {pos : Pos}
/-! ### an own list is read, and stays own -/
def ePeek (i : Nat) (fe : EvE) : EvE := fun δ ω => match δ[i]? with
  | some (.own ds) => (noErr (fe (δ.set i (.val (.lst ds))) ω)).bind fun d ω1 => if pureD d = true then .ok d ω1 else .bad
  | _ => .bad
theorem pd_peek {i : Nat} (h : PEd X W e fa) : PEd X W e (ePeek i fa) := by
  obtain ⟨t, p, q⟩ := h.ex
  refine ⟨t, p, fun M al σ H δ ω Q S h => ?_⟩
  unfold ePeek at h
  split at h
  · rename_i ds eo
    refine q M _ σ H _ ω Q (S.freeze eo) ?_
    cases e1 : fa (δ.set i (.val (.lst ds))) ω with
    | ok d ω1 =>
      rw [e1] at h
      dsimp only [noErr, Rs.bind] at h
      split at h
      · rename_i hp
        exact fun v H' S2 f r => h v H' (S.go f S2.g) f (r.pure hp)
      · exact h.elim
    | err x ω1 => rw [e1] at h; exact h.elim
    | bad => rw [e1] at h; exact h.elim
  · exact h.elim
def tPeek (i : Nat) (ft : EvT) : EvT := fun δ ω => match δ[i]? with
  | some (.own ds) => noErr (ft (δ.set i (.val (.lst ds))) ω)
  | _ => .bad
theorem td_peek {i : Nat} (h : PTd X W e ft) : PTd X W e (tPeek i ft) := by
  obtain ⟨t, p, q⟩ := h.ex
  refine ⟨t, p, fun M al σ H δ ω Q S h => ?_⟩
  unfold tPeek at h
  split at h
  · rename_i ds eo
    refine q M _ σ H _ ω Q (S.freeze eo) ?_
    cases e1 : ft (δ.set i (.val (.lst ds))) ω with
    | ok d ω1 =>
      rw [e1] at h
      exact fun v H' S2 f r => h v H' (S.go f S2.g) f r
    | err x ω1 => rw [e1] at h; exact h.elim
    | bad => rw [e1] at h; exact h.elim
  · exact h.elim
/-! ### x.pop(), unpacked -/
def sPopT (i : Nat) (g : EvG) : EvS := fun δ ω => match δ[i]? with
  | some (.own ds) => match ds.getLast? with
    | some d => match g d (δ.set i (.own ds.dropLast)) ω with
      | some δ' => .ok (.nx δ') ω
      | none => .bad
    | none => .bad
  | _ => .bad
theorem Reps.dropLast {sa : Addr} {N : Addr → Prop} : ∀ {xs : List V} {ds : List D}, Reps K sa N H xs ds → Reps K sa N H xs.dropLast ds.dropLast
  | _, _, .nil => .nil
  | _, _, .cons r .nil => .nil
  | _, _, .cons r (.cons r2 rs) => .cons r (Reps.dropLast (.cons r2 rs))
theorem Reps.last {sa : Addr} {N : Addr → Prop} {xs : List V} {ds : List D} {d : D} (r : Reps K sa N H xs ds) (h : ds.getLast? = some d) : ∃ v, xs[xs.length - 1]? = some v ∧ Rep K sa N H v d := by
  rw [List.getLast?_eq_getElem?, ← r.len] at h
  exact r.getD h
theorem wrOwn_fr (S : DSt K P M al σ H δ ω) {i : Nat} {L : Addr} (ha : al i = some L) {xs ys : List V} (hL : H L = some (.lst xs)) : Fr (fun b => M.Z b ∨ ∃ i, al i = some b) H (upd H L (.lst ys)) := ⟨fun b o e k => by
    by_cases hb : b = L
    · subst hb
      rw [hL] at e; cases e
      exact absurd (.inr ⟨i, ha⟩) k
    · rw [upd_ne hb]; exact e, fun b ⟨o, e, n⟩ => by
    by_cases hb : b = L
    · subst hb; exact ⟨_, upd_same, trivial⟩
    · exact ⟨o, by rw [upd_ne hb]; exact e, n⟩⟩
theorem wrOwn_rep (S : DSt K P M al σ H δ ω) {i : Nat} {L : Addr} (ha : al i = some L) {xs ys : List V} (hL : H L = some (.lst xs)) {v : V} {d : D} (r : Rep K M.sa (NA M.N al) H v d) : Rep K M.sa (NA M.N al) (upd H L (.lst ys)) v d :=
  r.mono (wrOwn_fr S ha hL) fun b hb => by
    rcases hb with hb | hb
    · exact .inl (S.zn b hb)
    · exact .inr hb
theorem wrOwn_reps (S : DSt K P M al σ H δ ω) {i : Nat} {L : Addr} (ha : al i = some L) {xs ys : List V} (hL : H L = some (.lst xs)) {v : List V} {d : List D} (r : Reps K M.sa (NA M.N al) H v d) : Reps K M.sa (NA M.N al) (upd H L (.lst ys)) v d :=
  r.mono (wrOwn_fr S ha hL) fun b hb => by
    rcases hb with hb | hb
    · exact .inl (S.zn b hb)
    · exact .inr hb
theorem alW_ext {vs : List Nat} : AlExt H al (alW al vs) := fun j a q => .inl ⟨j, (alW_sub q).1⟩
theorem sd_popT {i : Nat} {x : Str} {np apos cpos : Pos} {tg : Expr} {vs : List Nat} {g : EvG} (hN : X.N[i]? = some x) (hg : PGd X W.P tg vs g) (hv : Vis X.env.scope x := by first | exact Or.inl rfl | exact Or.inr (Or.inl rfl) | exact Or.inr (Or.inr rfl)) (hd : (x == ("__debug__" : Str)) = false := by decide) (hcd : (x == ("__classdict__" : Str)) = false := by decide)
    (hbase : attributeBase (.Name x np) "pop" X.env (eval (.Name x np) X.env) = eval (.Name x np) X.env := by rfl) (hline : (apos.endLine == cpos.line) = true := by rfl)
    (hs : swapsWithSole [tg] (.Call (.Attribute (.Name x np) "pop" apos) [] [] cpos) pos.line X.env = pure false := by rfl) (hw : swappedStores [tg] (.Call (.Attribute (.Name x np) "pop" apos) [] [] cpos) X.env = pure none := by rfl)
    (h1 : (assignEach [tg] X.env).map (·.2) = [assign tg X.env] := by rfl) :
    PSd X W (.Assign [tg] (.Call (.Attribute (.Name x np) "pop" apos) [] [] cpos) pos) (sPopT i g) := by
  obtain ⟨t, p1, q1⟩ := hg.ex
  refine ⟨_, ps_asg (pe_bm0 PySem.F.plainAttrs_list PySem.F.slot_list_pop PySem.F.type_list_pop mt_pop (pe_var (i := i) hN hv hd hcd) hbase hline) p1 hs hw h1, fun M al σ H δ ω D S h => ?_⟩
  unfold sPopT at h
  split at h
  · rename_i ds eo
    obtain ⟨L, xs, ha, hσ, hL, hl, r⟩ := S.ownAt eo
    split at h
    · rename_i d ed
      obtain ⟨v, hv1, rv⟩ := r.last ed
      split at h
      · rename_i δ' eg
        refine ⟨_, hσ, .inl ⟨rfl, _, SqL.of hL⟩, L, xs, v, rfl, rfl, hL, hv1, ?_⟩
        obtain ⟨S2, f2⟩ := S.wrOwn (ys := xs.dropLast) eo ha hσ hL (by rw [List.length_dropLast]; omega) r.dropLast
        exact q1 M al σ _ _ ω v d δ' _ S2 (wrOwn_rep S ha hL rv) eg fun σ' S3 _ _ => h _ σ' _ S3 f2 alW_ext
      · exact h.elim
    · exact h.elim
  · exact h.elim
/-! ### x.extend(list) -/
def sExt (i : Nat) (fa : EvE) : EvS := fun δ ω => match δ[i]? with
  | some (.own ds) => (fa δ ω).bind fun d ω1 => match d with
    | .lst es => if ds.length + es.length ≤ sizeLine then .ok (.nx (δ.set i (.own (ds ++ es)))) ω1 else .bad
    | _ => .bad
  | _ => .bad
theorem sd_ext {i : Nat} {x : Str} {np apos cpos : Pos} (hN : X.N[i]? = some x) (he : PEd X W e fa) (hv : Vis X.env.scope x := by first | exact Or.inl rfl | exact Or.inr (Or.inl rfl) | exact Or.inr (Or.inr rfl)) (hd : (x == ("__debug__" : Str)) = false := by decide) (hcd : (x == ("__classdict__" : Str)) = false := by decide)
    (hbase : attributeBase (.Name x np) "extend" X.env (eval (.Name x np) X.env) = eval (.Name x np) X.env := by rfl)
    (hfew : ((backTo cpos (starEach (e :: []) X.env)).all (fun x => !x.1) && (backToKw cpos (keywordEach [] X.env)).all (fun x => x.1.isSome)
      && decide ((e :: []).length + ([] : List Keyword).length + (if ([] : List Keyword).isEmpty then 0 else 1) < 30)) = true := by rfl)
    (hline : (apos.endLine == cpos.line) = true := by rfl) (hs0 : starEach (e :: []) X.env = (false, eval e X.env) :: starEach [] X.env := by rfl) (hplain : (backTo cpos (starEach [] X.env)).any (·.1) = false := by rfl)
    (hs : swapsWith (.Call (.Attribute (.Name x np) "extend" apos) [e] [] cpos) none pos.line X.env = pure false := by rfl) :
    PSd X W (.Expr (.Call (.Attribute (.Name x np) "extend" apos) [e] [] cpos) pos) (sExt i fa) := by
  obtain ⟨t, p1, q1⟩ := he.ex
  refine ⟨_, ps_expr (pe_bm PySem.F.plainAttrs_list PySem.F.slot_list_extend PySem.F.type_list_extend mt_extend (pe_var (i := i) hN hv hd hcd) (pa_cons p1 pa_nil hs0) hbase hfew hline hs0 hplain) hs, fun M al σ H δ ω D S h => ?_⟩
  unfold sExt at h
  split at h
  · rename_i ds eo
    obtain ⟨L, xs, ha, hσ, hL, hl, r⟩ := S.ownAt eo
    refine ⟨_, hσ, .inl ⟨rfl, _, SqL.of hL⟩, ?_⟩
    refine q1 M al σ H δ ω _ S (post_mono (fun y H1 h1 => ?_) (posts_bind (rel := relE X.K M al) S.fr h))
    obtain ⟨d, ω1, e1, S1, f1, r1, h1⟩ := h1
    cases r1 with
    | @lst b zs es hb nb lb rb =>
      dsimp only at h1
      split at h1
      · rename_i hlt
        obtain ⟨L', xs1, ha', hσ', hL1, hl1, rs1⟩ := S1.ownAt eo
        have eL : L' = L := Option.some.inj (ha'.symm.trans ha)
        subst eL
        have lt : xs1.length + zs.length ≤ sizeLine := by rw [rs1.len, rb.len]; exact hlt
        obtain ⟨S2, f2⟩ := S1.wrOwn (ys := xs1 ++ zs) eo ha hσ hL1 (by rw [List.length_append]; exact lt) (rs1.app rb)
        exact ⟨L', b, xs1, zs, rfl, rfl, hL1, hb, lt, h1 _ _ _ S2 (Fr.trans f1.s f2) AlExt.refl⟩
      · exact h1.elim
    | _ => exact h1.elim
  · exact h.elim
/-! ### x.remove(d) -/
def rRemD (K : PySem.W.Frag) : V → List V → Hp → VK → Prop := fun x xs H Q => ∃ (a : Addr) (y : V) (d : PyData) (vs : List V) (ds : List PyData) (j : Nat) (z : PyData), x = V.ref a ∧ xs = [y] ∧ H a = some (.lst vs) ∧ DpAll K H vs ds ∧ Dp K H y d ∧
  PyData.canLayAll0 ds = true ∧ SeqAt.shaped d = true ∧ ds[j]? = some z ∧ PyData.eqv z d = true ∧ (∀ (m : Nat) (z' : PyData), m < j → ds[m]? = some z' → PyData.eqv z' d = false) ∧ Q .non (upd H a (.lst (vs.eraseIdx j)))
theorem mt_removeD (hu : X.A.units + 65 < cLine) : MtM X "list.remove" (rRemD X.K) := by
  intro pins s σ H x xs v us Q I rx rxs h
  obtain ⟨a, y, d, vs, ds, j, z, rfl, rfl, hH, hl, hy, sl, sd, hz, hzj, hno, q⟩ := h
  cases rx
  cases rxs with
  | cons ry rt =>
    rename_i uy ut
    cases rt
    obtain ⟨bs, r1⟩ := Dp.reads I d y uy hy ry
    have hroom : X.A.units + 1 + min (PyData.depthAll ds) d.depth < cLine := room_in1 sd hu
    obtain ⟨z0, its, n, rv, hlen, ho⟩ := I.lstM hH
    obtain ⟨as, h4⟩ := Dp.readsAll I ds _ its hl rv
    have hn : its.length = ds.length := SeqAt.ReadsAll.length ds its as h4
    have hmap : its.map (SeqAt.readOf s.heap) = ds := SeqAt.readsAll_map ds its as sl h4
    obtain ⟨hjd, _⟩ := List.getElem?_eq_some_iff.mp hz
    have hj : j < its.toArray.size := by
      show j < its.length
      omega
    have at_ : ∀ (m : Nat) (hm : m < its.toArray.size) (z' : PyData), ds[m]? = some z' → SeqAt.readOf s.heap its.toArray[m] = z' := by
      intro m hm z' hz'
      have hml : m < its.length := by simpa using hm
      rw [← hmap, List.getElem?_map, List.getElem?_eq_getElem hml] at hz'
      have e1 : SeqAt.readOf s.heap its[m] = z' := Option.some.inj (show some (SeqAt.readOf s.heap its[m]) = some z' from hz')
      simpa using e1
    refine call_meets PySem.F.slot_list_remove ⟨_, ho, rfl⟩ PySem.F.entry_list_remove (PySem.F.args_list_remove_2 _ _)
      (SeqAt.list_removeAt a its.toArray n none #[] uy (fun u => PyData.eqv (SeqAt.readOf s.heap u) d) j hj ?_ ?_ (by rw [List.size_toArray]; omega)) ⟨ho, SeqAt.items_eqAt (vs := its.toArray) (show ReadsAll s.heap its.toArray.toList ds as from h4) r1 sl (SeqAt.canLay_of_shaped sd) hroom, ?_⟩
    · show PyData.eqv (SeqAt.readOf s.heap its.toArray[j]) d = true
      rw [at_ j hj z hz]
      exact hzj
    · intro m hm hmj
      have hmd : m < ds.length := by omega
      have hz' : ds[m]? = some ds[m] := List.getElem?_eq_getElem hmd
      show PyData.eqv (SeqAt.readOf s.heap its.toArray[m]) d = false
      rw [at_ m hm _ hz']
      exact hno m _ hmj hz'
    · refine ⟨.non, _, I.lset (its' := its.eraseIdx j) (t' := s.toks) hH ho ?_ (rv.eraseIdx j) ?_, rfl, q⟩
      · show its.toArray.eraseIdxIfInBounds j = (its.eraseIdx j).toArray
        rw [List.eraseIdxIfInBounds_toArray]
      · have z2 := len_erase vs j
        omega
def sRem (i : Nat) (fa : EvE) : EvS := fun δ ω => match δ[i]? with
  | some (.own ds) => (fa δ ω).bind fun d ω1 => match toPy d, toPy.toPyL ds with
    | some p, some ps => if SeqAt.shaped p = true ∧ PyData.canLayAll0 ps = true then match ps.findIdx? (fun z => PyData.eqv z p) with
      | some j => .ok (.nx (δ.set i (.own (ds.eraseIdx j)))) ω1
      | none => .bad else .bad
    | _, _ => .bad
  | _ => .bad
theorem Reps.erase {sa : Addr} {N : Addr → Prop} : ∀ {xs : List V} {ds : List D} (j : Nat), Reps K sa N H xs ds → Reps K sa N H (xs.eraseIdx j) (ds.eraseIdx j)
  | _, _, _, .nil => .nil
  | _, _, 0, .cons r rs => rs
  | _, _, j + 1, .cons r rs => .cons r (Reps.erase j rs)
theorem sd_rem {i : Nat} {x : Str} {np apos cpos : Pos} (hu : X.A.units + 65 < cLine) (hN : X.N[i]? = some x) (he : PEd X W e fa) (hv : Vis X.env.scope x := by first | exact Or.inl rfl | exact Or.inr (Or.inl rfl) | exact Or.inr (Or.inr rfl)) (hd : (x == ("__debug__" : Str)) = false := by decide) (hcd : (x == ("__classdict__" : Str)) = false := by decide)
    (hbase : attributeBase (.Name x np) "remove" X.env (eval (.Name x np) X.env) = eval (.Name x np) X.env := by rfl)
    (hfew : ((backTo cpos (starEach (e :: []) X.env)).all (fun x => !x.1) && (backToKw cpos (keywordEach [] X.env)).all (fun x => x.1.isSome)
      && decide ((e :: []).length + ([] : List Keyword).length + (if ([] : List Keyword).isEmpty then 0 else 1) < 30)) = true := by rfl)
    (hline : (apos.endLine == cpos.line) = true := by rfl) (hs0 : starEach (e :: []) X.env = (false, eval e X.env) :: starEach [] X.env := by rfl) (hplain : (backTo cpos (starEach [] X.env)).any (·.1) = false := by rfl)
    (hs : swapsWith (.Call (.Attribute (.Name x np) "remove" apos) [e] [] cpos) none pos.line X.env = pure false := by rfl) :
    PSd X W (.Expr (.Call (.Attribute (.Name x np) "remove" apos) [e] [] cpos) pos) (sRem i fa) := by
  obtain ⟨t, p1, q1⟩ := he.ex
  refine ⟨_, ps_expr (pe_bm PySem.F.plainAttrs_list PySem.F.slot_list_remove PySem.F.type_list_remove (mt_removeD hu) (pe_var (i := i) hN hv hd hcd) (pa_cons p1 pa_nil hs0) hbase hfew hline hs0 hplain) hs, fun M al σ H δ ω D S h => ?_⟩
  unfold sRem at h
  split at h
  · rename_i ds eo
    obtain ⟨L, xs, ha, hσ, hL, hl, r⟩ := S.ownAt eo
    refine ⟨_, hσ, .inl ⟨rfl, _, SqL.of hL⟩, ?_⟩
    refine q1 M al σ H δ ω _ S (post_mono (fun y H1 h1 => ?_) (posts_bind (rel := relE X.K M al) S.fr h))
    obtain ⟨d, ω1, e1, S1, f1, r1, h1⟩ := h1
    split at h1
    · rename_i p ps hp hps
      split at h1
      · rename_i hc
        split at h1
        · rename_i j hj
          obtain ⟨L', xs1, ha', hσ', hL1, hl1, rs1⟩ := S1.ownAt eo
          have eL : L' = L := Option.some.inj (ha'.symm.trans ha)
          subst eL
          obtain ⟨S2, f2⟩ := S1.wrOwn (ys := xs1.eraseIdx j) eo ha hσ hL1 (by have := len_erase xs1 j; omega) (rs1.erase j)
          obtain ⟨hj1, hj2, hj3⟩ := List.findIdx?_eq_some_iff_getElem.mp hj
          refine ⟨L', y, p, xs1, ps, j, ps[j], rfl, rfl, hL1, rs1.dp hps, r1.dp hp, hc.2, hc.1, List.getElem?_eq_getElem hj1, hj2, fun m z' hm hz' => ?_, h1 _ _ _ S2 (Fr.trans f1.s f2) AlExt.refl⟩
          obtain ⟨hm1, rfl⟩ := List.getElem?_eq_some_iff.mp hz'
          exact Bool.eq_false_iff.mpr (hj3 m hm)
        · exact h1.elim
      · exact h1.elim
    · exact h1.elim
  · exact h.elim
/-! ### an own list, walked by a comprehension -/
def iOwn (i : Nat) : EvI := fun δ ω => match δ[i]? with
  | some (.own ds) => .ok ds ω
  | _ => .bad
theorem ic_own {i : Nat} {x : Str} {np : Pos} {tg : Expr} (hN : X.N[i]? = some x) (hv : Vis X.env.scope x := by first | exact Or.inl rfl | exact Or.inr (Or.inl rfl) | exact Or.inr (Or.inr rfl)) (hd : (x == ("__debug__" : Str)) = false := by decide) (hcd : (x == ("__classdict__" : Str)) = false := by decide) : PIc X W tg (.Name x np) (iOwn i) := by
  refine ⟨_, pi_any (pe_var (i := i) hN hv hd hcd), fun M al σ H δ ω R S h => ?_⟩
  unfold iOwn at h
  split at h
  · rename_i ds eo
    obtain ⟨L, xs, ha, hσ, hL, hl, r⟩ := S.ownAt eo
    have nZ : ¬ M.Z L := fun z => (S.fresh i L ha).2.1 (S.zn L z)
    refine ⟨_, hσ, .inl ⟨L, xs, rfl, SqL.of hL, h _ _ S (Fr.refl H) ⟨by rw [← r.len]; exact hl, fun N' hn i' H' f => ?_⟩⟩⟩
    have h' : SqL X.K H' L xs := SqL.of (f.keep _ _ hL nZ)
    refine ⟨fun hi => ?_, fun hi => ⟨xs, h', by rw [r.len]; exact hi⟩⟩
    have hx : i' < xs.length := by rw [r.len]; exact hi
    refine ⟨⟨xs, xs[i'], h', List.getElem?_eq_getElem hx⟩, fun x H'' y => ?_⟩
    obtain ⟨rfl, y⟩ := y
    obtain ⟨d, hd, rd⟩ := r.get (y xs h')
    exact ⟨Same.refl _, d, hd, rd.onto hn S.zna f⟩
  · exact h.elim
/-! ### x, y = e, [] where y is a list of the def's own; x, y = list(e), [] where both are -/
theorem setOwn_ext {i : Nat} {L : Addr} {Z : Addr → Prop} {H1 : Hp} (f : Fr Z H H1) (hL : H1 L = none) : AlExt H al (fun j => if j = i then some L else al j) := fun j a q => by
  by_cases e : j = i
  · simp only [e, if_pos] at q
    cases q
    exact .inr fun z => Tr.not hL (f.there L z)
  · simp only [if_neg e] at q; exact .inl ⟨j, q⟩
def sParVN (i j : Nat) (fa : EvE) : EvS := fun δ ω => (fa δ ω).bind fun d ω1 => if j < δ.length then .ok (.nx ((δ.set i (.val d)).set j (.own []))) ω1 else .bad
theorem sd_parVN {i j : Nat} {x y : Str} {px py pt lp : Pos} {kt k2 : Nat} {pt2 : Pos} (hc : X.calm = true) (hN : X.N.Nodup) (hi : X.N[i]? = some x) (hj : X.N[j]? = some y) (hij : i ≠ j)
    (hx : X.env.scope.names.lookup x = some .local) (hy : X.env.scope.names.lookup y = some .local) (ha : PEd X W a fa)
    (hw : swappedStores [.Tuple [.Name x px, .Name y py] kt pt] (.Tuple [a, .List [] lp] k2 pt2) X.env = pure (some [x, y]) := by rfl)
    (hs : swapsWithSole [.Tuple [.Name x px, .Name y py] kt pt] (.Tuple [a, .List [] lp] k2 pt2) pos.line X.env = pure false := by rfl)
    (hs1 : starEach (a :: [.List [] lp]) X.env = (false, eval a X.env) :: starEach [.List [] lp] X.env := by rfl)
    (hs2 : starEach [.List [] lp] X.env = (false, eval (.List [] lp) X.env) :: starEach [] X.env := by rfl) :
    PSd X W (.Assign [.Tuple [.Name x px, .Name y py] kt pt] (.Tuple [a, .List [] lp] k2 pt2) pos) (sParVN i j fa) := by
  obtain ⟨t, p1, q1⟩ := ha.ex
  refine ⟨_, ps_par hc hN hi hj hij hx hy (pa_cons p1 (pa_cons (pe_lst pa_nil) pa_nil hs2) hs1) hw hs, fun M al σ H δ ω DD S h => ?_⟩
  refine q1 M al σ H δ ω _ S (post_mono (fun v H1 h1 => ?_) (posts_bind (rel := relE X.K M al) S.fr h))
  obtain ⟨d, ω1, e1, S1, f1, r1, h1⟩ := h1
  split at h1
  · rename_i hlt
    refine ⟨Nat.zero_le _, fun L hL => ⟨_, _, rfl, ?_⟩⟩
    have S2 := (S1.set (i := i) r1).setOwn (i := j) (xs := []) hL (by rw [List.length_set]; exact hlt) (Nat.zero_le _) .nil
    refine h1 _ _ _ S2 (f1.trans (.same (same_upd hL))).s fun k a q => ?_
    by_cases e : k = j
    · simp only [e, if_pos] at q
      cases q
      exact .inr fun z => Tr.not hL (f1.there L z)
    · simp only [if_neg e] at q
      by_cases e2 : k = i
      · simp only [e2, if_pos] at q; cases q
      · simp only [if_neg e2] at q; exact .inl ⟨k, q⟩
  · exact h1.elim
def sParLN (i j : Nat) (fs : EvA) : EvS := fun δ ω => (fs δ ω).bind fun as ω1 => match as with
  | [d] => match itemsLT d with
    | some ds => if i < δ.length ∧ j < δ.length then .ok (.nx ((δ.set i (.own ds)).set j (.own []))) ω1 else .bad
    | none => .bad
  | _ => .bad
theorem sd_parLN {i j : Nat} {x y : Str} {px py pt lp p0 p1' : Pos} {kt k2 : Nat} {pt2 : Pos} (hc : X.calm = true) (hN : X.N.Nodup) (hi : X.N[i]? = some x) (hj : X.N[j]? = some y) (hij : i ≠ j)
    (hx : X.env.scope.names.lookup x = some .local) (hy : X.env.scope.names.lookup y = some .local) (hm : X.mg "list" = none) (ha : PAd X W [e] fs) (hg : Gl X "list" := by rfl)
    (hw : swappedStores [.Tuple [.Name x px, .Name y py] kt pt] (.Tuple [.Call (.Name "list" p0) [e] [] p1', .List [] lp] k2 pt2) X.env = pure (some [x, y]) := by rfl)
    (hs : swapsWithSole [.Tuple [.Name x px, .Name y py] kt pt] (.Tuple [.Call (.Name "list" p0) [e] [] p1', .List [] lp] k2 pt2) pos.line X.env = pure false := by rfl)
    (hs0 : starEach [e] X.env = (false, eval e X.env) :: starEach [] X.env := by rfl) (hpl : (backTo p1' (starEach [] X.env)).any (·.1) = false := by rfl)
    (hs1 : starEach (.Call (.Name "list" p0) [e] [] p1' :: [.List [] lp]) X.env = (false, eval (.Call (.Name "list" p0) [e] [] p1') X.env) :: starEach [.List [] lp] X.env := by rfl)
    (hs2 : starEach [.List [] lp] X.env = (false, eval (.List [] lp) X.env) :: starEach [] X.env := by rfl) :
    PSd X W (.Assign [.Tuple [.Name x px, .Name y py] kt pt] (.Tuple [.Call (.Name "list" p0) [e] [] p1', .List [] lp] k2 pt2) pos) (sParLN i j fs) := by
  obtain ⟨t, p1, q1⟩ := ha.ex
  refine ⟨_, ps_par hc hN hi hj hij hx hy (pa_cons (pe_callTy call_list_of hg hm (by decide +kernel) p1 (by decide) (by decide) hs0 hpl) (pa_cons (pe_lst pa_nil) pa_nil hs2) hs1) hw hs, fun M al σ H δ ω DD S h => ?_⟩
  refine q1 M al σ H δ ω _ S (post_mono (fun vs H1 h1 => ?_) (posts_bind (rel := relA X.K M al) S.fr h))
  obtain ⟨as, ω1, e1, S1, f1, r1, h1⟩ := h1
  split at h1
  · rename_i d
    split at h1
    · rename_i ds ed
      split at h1
      · rename_i hlt
        obtain ⟨v, rfl, r⟩ := r1.one
        have main : ∀ (ys : List V), ys.length ≤ sizeLine → Reps X.K M.sa (NA M.N al) H1 ys ds → ∀ l, H1 l = none → ∀ L, (upd H1 l (.lst ys)) L = none → DD.nx ((σ.set i (some (.ref l))).set j (some (.ref L))) (upd (upd H1 l (.lst ys)) L (.lst [])) := fun ys hl ry l hl0 L hL0 => by
          have S2 := (S1.setOwn (i := i) (xs := ys) hl0 hlt.1 hl ry).setOwn (i := j) (xs := []) hL0 (by rw [List.length_set]; exact hlt.2) (Nat.zero_le _) .nil
          refine h1 _ _ _ S2 ((f1.trans (.same (same_upd hl0))).trans (.same (same_upd hL0))).s fun k a q => ?_
          by_cases e : k = j
          · simp only [e, if_pos] at q
            cases q
            exact .inr fun z => Tr.not hL0 ((f1.trans (.same (same_upd hl0))).there L z)
          · simp only [if_neg e] at q
            by_cases e2 : k = i
            · simp only [e2, if_pos] at q
              cases q
              exact .inr fun z => Tr.not hl0 (f1.there l z)
            · simp only [if_neg e2] at q; exact .inl ⟨k, q⟩
        cases r with
        | tup hb lb rb =>
          cases ed
          exact ⟨_, _, rfl, .inr hb, fun l hl0 => ⟨Nat.zero_le _, fun L hL0 => ⟨_, _, rfl, main _ lb rb l hl0 L hL0⟩⟩⟩
        | lst hb nb lb rb =>
          cases ed
          exact ⟨_, _, rfl, .inl (SqL.of hb), fun l hl0 => ⟨Nat.zero_le _, fun L hL0 => ⟨_, _, rfl, main _ lb rb l hl0 L hL0⟩⟩⟩
        | _ => exact nomatch ed
      · exact h1.elim
    · exact h1.elim
  · exact h1.elim
end
end DL

namespace DL
open PySem PySem.Spec PyProof.Rows L2 LamX
/-! ### a list that callees fill: within, it is the state (.st), what it holds is ω.acc -/
/-- what nothing can change is kept -/
def KeepP (H H' : Hp) : Prop := ∀ b o, H b = some o → keepO (fun _ => True) b o → H' b = some o
theorem KeepP.sqT {K : PySem.W.Frag} {H H' : Hp} {a : Addr} {xs : List V} (f : KeepP H H') (h : SqT K H a xs) : SqT K H' a xs := by
  rcases h with (h | ⟨o, h⟩) | h
  · exact .inl (.inl (f _ _ h trivial))
  · exact .inl (.inr ⟨o, f _ _ h trivial⟩)
  · exact .inr h
mutual
theorem Rep.keepP {K : PySem.W.Frag} {sa sa' : Addr} {N N' : Addr → Prop} {H H' : Hp} (f : KeepP H H') : ∀ {v : V} {d : D}, Rep K sa N H v d → pureD d = true → Rep K sa' N' H' v d
  | _, _, .non, _ => .non
  | _, _, .bl b, _ => .bl b
  | _, _, .int i, _ => .int i
  | _, _, .str x, _ => .str x
  | _, _, .ty n, _ => .ty n
  | _, _, .glo x, _ => .glo x
  | _, _, .tup h l r, e => .tup (f.sqT h) l (Reps.keepP f r e)
  | _, _, .lst _ _ _ _, e => nomatch (show false = true from e)
  | _, _, .scr _ _, e => nomatch (show false = true from e)
  | _, _, .scrL _ _ _, e => nomatch (show false = true from e)
  | _, _, .st, e => nomatch (show false = true from e)
  | _, _, .map _ _ _ _ _, e => nomatch (show false = true from e)
  | _, _, .exc0 _, e => nomatch (show false = true from e)
  | _, _, .exc1 _ _ _, e => nomatch (show false = true from e)
theorem Reps.keepP {K : PySem.W.Frag} {sa sa' : Addr} {N N' : Addr → Prop} {H H' : Hp} (f : KeepP H H') : ∀ {vs : List V} {ds : List D}, Reps K sa N H vs ds → pureD.pureL ds = true → Reps K sa' N' H' vs ds
  | _, _, .nil, _ => .nil
  | _, _, .cons (d := d) (ds := ds) r rs, e => by
    have e' : (pureD d && pureD.pureL ds) = true := e
    rw [Bool.and_eq_true] at e'
    exact .cons (Rep.keepP f r e'.1) (Reps.keepP f rs e'.2)
end
theorem Fr.keepP {Z : Addr → Prop} {H H' : Hp} (f : Fr Z H H') : KeepP H H' := fun b o e k => f.keep b o e (k.imp fun _ _ => trivial)
theorem KeepP.upd {H : Hp} {L : Addr} {xs ys : List V} (h : H L = some (.lst xs)) : KeepP H (upd H L (.lst ys)) := fun b o e k => by
  by_cases hb : b = L
  · subst hb
    rw [h] at e; cases e
    exact absurd trivial k
  · rw [upd_ne hb]; exact e
structure AccOk (K : PySem.W.Frag) (sa : Addr) (Z : Addr → Prop) (G : Om → Hp → Prop) : Prop where
  z : Z sa
  r : ∀ ω H, G ω H → ∃ xs, H sa = some (.lst xs) ∧ xs.length ≤ sizeLine ∧ Reps K sa Z H xs ω.acc ∧ pureD.pureL ω.acc = true
  w : ∀ (ω : Om) (H : Hp) (xs ys : List V) (ds : List D), G ω H → H sa = some (.lst xs) → ys.length ≤ sizeLine → Reps K sa Z H ys ds → pureD.pureL ds = true → G { ω with acc := ds } (upd H sa (.lst ys))
abbrev AccP (K : PySem.W.Frag) : PP := fun sa Z G => AccOk K sa Z G
section
variable {X : Cx} {W : Wt} {P : PP} {K : PySem.W.Frag} {M : Fm} {al : Nat → Option Addr} {σ : L2.St} {H : Hp} {δ : Sls} {ω : Om}
variable {a b e c : Expr} {es : List Expr} {fa fb fc : EvE} {ft : EvT} {gs : EvS} {fs : EvA} {pos : Pos} {rest : List Stmt}
def pureS : Sl → Bool
  | .emp => true
  | .val d => pureD d
  | .own _ => false
/-- x = [], which callees fill; gs: what follows -/
def sAcc (i : Nat) (gs : EvS) : EvS := fun δ ω => if δ.all pureS = true ∧ i < δ.length then (match gs (δ.set i (.val .st)) { ω with acc := [] } with
  | .ok (.rt d) _ => if pureD d = true then .ok (.rt d) ω else .bad
  | _ => .bad) else .bad
theorem keepO.at {Z Z' : Addr → Prop} {b : Addr} (h : Z' b → Z b) : ∀ {o : HO}, keepO Z b o → keepO Z' b o
  | .lst _, k => fun z => k (h z)
  | .dK _, k => fun z => k (h z)
  | .dT _, k => fun z => k (h z)
  | .set _ _, k => fun z => k (h z)
  | .ins _ _ _, k => fun z => k (h z)
  | .tbl _, k => k
  | .tup _, _ => trivial
  | .own _, _ => trivial
  | .xd _, _ => trivial
  | .met _ _, _ => trivial
  | .rng _ _, _ => trivial
  | .frz _ _, _ => trivial
  | .ext _, _ => trivial
theorem DSt.acc (S : DSt K P M al σ H δ ω) {i : Nat} {L : Addr} (hL : H L = none) (hp : δ.all pureS = true) (hi : i < δ.length) :
    DSt K (AccP K) ⟨L, fun b => M.Z b ∨ b = L, fun b => M.Z b ∨ b = L, fun ω' H' => (∃ xs, H' L = some (.lst xs) ∧ xs.length ≤ sizeLine ∧ Reps K L (fun b => M.Z b ∨ b = L) H' xs ω'.acc ∧ pureD.pureL ω'.acc = true) ∧ M.G ω H', upd H L (.lst [])⟩ (fun _ => none) (σ.set i (some (.ref L))) (upd H L (.lst [])) (δ.set i (.val .st)) { ω with acc := [] } where
  pp := by
    have hZL : ¬ M.Z L := fun z => Tr.not hL (S.nt L (S.zn L z))
    refine ⟨.inr rfl, fun ω' H' g => g.1, fun ω' H' xs ys ds g hx hl r hp => ⟨⟨ys, upd_same, hl, r.keepP (.upd hx) hp, hp⟩, S.gm _ _ _ (fun b o e k => ?_) g.2⟩⟩
    by_cases hb : b = L
    · subst hb
      rw [hx] at e; cases e
      rcases k with k | k | ⟨ps, k⟩
      · exact absurd k hZL
      · exact absurd trivial k
      · cases k
    · rw [upd_ne hb]; exact e
  zn := fun _ z => z
  gm := fun ω' H1 H2 hk g => by
    obtain ⟨⟨xs, e1, e2, e3, e4⟩, g2⟩ := g
    exact ⟨⟨xs, hk _ _ e1 (.inl (.inr rfl)), e2, e3.keepP (fun b o e k => hk b o e (.inr (.inl k))) e4, e4⟩, S.gm _ _ _ (fun b o e k => hk b o e (k.imp (fun z => .inl z) id)) g2⟩
  g := ⟨⟨[], upd_same, Nat.zero_le _, .nil, rfl⟩, S.gm.same (same_upd hL) S.g⟩
  nt := fun b hb => by
    rcases hb with hb | hb
    · obtain ⟨o, e, n⟩ := S.nt b (S.zn b hb)
      exact ⟨o, same_upd hL _ _ e, n⟩
    · exact ⟨.lst [], by rw [hb]; exact upd_same, trivial⟩
  fr := Fr.refl _
  len := by rw [List.length_set, List.length_set]; exact S.len
  sl := fun j hj => by
    rw [List.length_set] at hj
    by_cases e : j = i
    · subst e
      rw [List.getElem?_set_self hj, List.getElem?_set_self (by rw [S.len]; exact hj)]
      exact .val .st
    · rw [List.getElem?_set_ne (Ne.symm e), List.getElem?_set_ne (Ne.symm e)]
      have q := S.sl j hj
      have pq : pureS ((δ[j]?).getD .emp) = true := by
        rw [List.getElem?_eq_getElem hj]
        exact List.all_eq_true.mp hp _ (List.getElem_mem hj)
      generalize (σ[j]?).getD none = o at q ⊢
      generalize (δ[j]?).getD .emp = x at q pq ⊢
      generalize al j = w at q
      cases q with
      | emp => exact .emp
      | val r => exact .val (r.keepP (fun b o e _ => same_upd hL b o e) pq)
      | own h l r => exact nomatch (show false = true from pq)
  inj := fun _ _ _ h => nomatch h
  fresh := fun _ _ h => nomatch h
theorem sd_acc {i : Nat} {x : Str} {pos' lp : Pos} (hN : X.N.Nodup) (hi : X.N[i]? = some x) (hx : Loc X.env.scope x) (h : PSsd X ⟨W.w, AccP X.K⟩ rest gs) (hs : swapsWith (.List [] lp) (some (.Name x pos')) pos.line X.env = pure false := by rfl) (hf : X.fn x = true ∨ X.env.scope.names.lookup x = some .local := by first | exact .inl rfl | exact .inr rfl | assumption) :
    PSsd X W (.Assign [.Name x pos'] (.List [] lp) pos :: rest) (sAcc i gs) := by
  obtain ⟨t2, p2, q2⟩ := h.ex
  refine ⟨_, pss_cons (ps_set (i := i) hN hi hx (pe_lst pa_nil) hs hf) p2, fun M al σ H δ ω D S h => ?_⟩
  unfold sAcc at h
  split at h
  · rename_i hc
    refine ⟨Nat.zero_le _, fun L hL => ?_⟩
    refine q2 _ _ _ _ _ _ D (S.acc hL hc.1 hc.2) ?_
    split at h
    · rename_i d ω' ee
      rw [ee]
      split at h
      · rename_i hp
        refine fun v H' f g r => h v H' ?_ g.2 (r.pure hp)
        have hZL : ∀ b o, H b = some o → ¬ b = L := fun b o e z => by rw [z, hL] at e; cases e
        refine S.fr.trans ⟨fun b o e k => f.keep b o (same_upd hL b o e) (k.at fun z => z.elim id fun z => absurd z (hZL b o e)), fun b hb => f.there b ((Fr.same (Z := M.Z) (same_upd hL)).there b hb)⟩
      · exact h.elim
    · exact h.elim
  · exact h.elim
/-! ### append, in, tuple of the list that is filled -/
theorem DSt.accAt {i : Nat} (S : DSt K (AccP K) M al σ H δ ω) (h : δ[i]? = some (.val .st)) : σ[i]? = some (some (.ref M.sa)) ∧ ∃ xs, H M.sa = some (.lst xs) ∧ xs.length ≤ sizeLine ∧ Reps K M.sa M.Z H xs ω.acc ∧ pureD.pureL ω.acc = true := by
  obtain ⟨v, e, r⟩ := S.val h
  cases r
  exact ⟨e, S.pp.r _ _ S.g⟩
def sAppA (i : Nat) (fa : EvE) : EvS := fun δ ω => match δ[i]? with
  | some (.val .st) => (fa δ ω).bind fun d ω1 => if ω1.acc.length < sizeLine ∧ pureD d = true then .ok (.nx δ) { ω1 with acc := ω1.acc ++ [d] } else .bad
  | _ => .bad
theorem pureL_app : ∀ {a b : List D}, pureD.pureL a = true → pureD.pureL b = true → pureD.pureL (a ++ b) = true
  | [], _, _, h => h
  | d :: a, b, h, h2 => by
    have h' : (pureD d && pureD.pureL a) = true := h
    rw [Bool.and_eq_true] at h'
    show (pureD d && pureD.pureL (a ++ b)) = true
    rw [h'.1, pureL_app h'.2 h2]
    rfl
theorem sd_appA {i : Nat} {x : Str} {np apos cpos : Pos} {w : XK} (hN : X.N[i]? = some x) (he : PEd X ⟨w, AccP X.K⟩ e fa) (hv : Vis X.env.scope x := by first | exact Or.inl rfl | exact Or.inr (Or.inl rfl) | exact Or.inr (Or.inr rfl)) (hd : (x == ("__debug__" : Str)) = false := by decide) (hcd : (x == ("__classdict__" : Str)) = false := by decide)
    (hbase : attributeBase (.Name x np) "append" X.env (eval (.Name x np) X.env) = eval (.Name x np) X.env := by rfl)
    (hfew : ((backTo cpos (starEach (e :: []) X.env)).all (fun x => !x.1) && (backToKw cpos (keywordEach [] X.env)).all (fun x => x.1.isSome)
      && decide ((e :: []).length + ([] : List Keyword).length + (if ([] : List Keyword).isEmpty then 0 else 1) < 30)) = true := by rfl)
    (hline : (apos.endLine == cpos.line) = true := by rfl) (hs0 : starEach (e :: []) X.env = (false, eval e X.env) :: starEach [] X.env := by rfl) (hplain : (backTo cpos (starEach [] X.env)).any (·.1) = false := by rfl)
    (hs : swapsWith (.Call (.Attribute (.Name x np) "append" apos) [e] [] cpos) none pos.line X.env = pure false := by rfl) :
    PSd X ⟨w, AccP X.K⟩ (.Expr (.Call (.Attribute (.Name x np) "append" apos) [e] [] cpos) pos) (sAppA i fa) := by
  obtain ⟨t, p1, q1⟩ := he.ex
  refine ⟨_, ps_expr (pe_bm PySem.F.plainAttrs_list PySem.F.slot_list_append PySem.F.type_list_append mt_append (pe_var (i := i) hN hv hd hcd) (pa_cons p1 pa_nil hs0) hbase hfew hline hs0 hplain) hs, fun M al σ H δ ω D S h => ?_⟩
  unfold sAppA at h
  split at h
  · rename_i eo
    obtain ⟨hσ, xs, hL, hl, r, hp⟩ := S.accAt eo
    refine ⟨_, hσ, .inl ⟨rfl, _, SqL.of hL⟩, ?_⟩
    refine q1 M al σ H δ ω _ S (post_mono (fun y H1 h1 => ?_) (posts_bind (W := ⟨w, AccP X.K⟩) (rel := relE X.K M al) S.fr h))
    obtain ⟨d, ω1, e1, S1, f1, r1, h1⟩ := h1
    split at h1
    · rename_i hlt
      obtain ⟨hσ1, xs1, hL1, hl1, rs1, hp1⟩ := S1.accAt eo
      have lt : xs1.length < sizeLine := by rw [rs1.len]; exact hlt.1
      refine ⟨M.sa, xs1, y, rfl, rfl, hL1, lt, ?_⟩
      have f2 : Fr M.Z H1 (upd H1 M.sa (.lst (xs1 ++ [y]))) := ⟨fun b o e k => by
        by_cases hb : b = M.sa
        · subst hb
          rw [hL1] at e; cases e
          exact absurd S1.pp.z k
        · rw [upd_ne hb]; exact e, fun b ⟨o, e, n⟩ => by
        by_cases hb : b = M.sa
        · subst hb; exact ⟨_, upd_same, trivial⟩
        · exact ⟨o, by rw [upd_ne hb]; exact e, n⟩⟩
      have g2 := S1.pp.w ω1 H1 xs1 (xs1 ++ [y]) (ω1.acc ++ [d]) S1.g hL1 (by rw [List.length_append, List.length_singleton]; omega) (rs1.app (.cons (r1.pure hlt.2) .nil)) (pureL_app hp1 (by show (pureD d && true) = true; rw [hlt.2]; rfl))
      exact h1 _ _ _ (S1.go f2 g2) (f1.trans f2).s AlExt.refl
    · exact h1.elim
  · exact h.elim
/-- e in x -/
def tInAcc (i : Nat) (fa : EvE) : EvT := fun δ ω => (fa δ ω).bind fun d ω1 => match δ[i]? with
  | some (.val .st) => match toPy d, toPy.toPyL ω1.acc with
    | some p, some ps => if SeqAt.shaped p = true ∧ PyData.canLayAll0 ps = true then .ok (ps.any fun z => PyData.eqv z p) ω1 else .bad
    | _, _ => .bad
  | _ => .bad
theorem td_inAcc {i : Nat} {x : Str} {np : Pos} {w : XK} (hu : X.A.units + 65 < cLine) (hN : X.N[i]? = some x) (he : PEd X ⟨w, AccP X.K⟩ e fa) (hm : behindInMarks .In (.Name x np) = false := by rfl) (hv : Vis X.env.scope x := by first | exact Or.inl rfl | exact Or.inr (Or.inl rfl) | exact Or.inr (Or.inr rfl)) (hd : (x == ("__debug__" : Str)) = false := by decide) (hcd : (x == ("__classdict__" : Str)) = false := by decide) :
    PTd X ⟨w, AccP X.K⟩ (.Compare e [.In] [.Name x np] pos) (tInAcc i fa) := by
  obtain ⟨t, p1, q1⟩ := he.ex
  refine ⟨_, pt_cmpR (op_inA hu) p1 (pe_var (i := i) hN hv hd hcd) hm, fun M al σ H δ ω Q S h => ?_⟩
  refine q1 M al σ H δ ω _ S (post_mono (fun y H1 h1 => ?_) (post_bind (W := ⟨w, AccP X.K⟩) (rel := relE X.K M al) h))
  obtain ⟨d, ω1, e1, S1, f1, r1, h1⟩ := h1
  split at h1
  · rename_i eo
    obtain ⟨hσ1, xs1, hL1, hl1, rs1, hp1⟩ := S1.accAt eo
    split at h1
    · rename_i p ps hp hps
      split at h1
      · rename_i hc
        exact ⟨_, hσ1, p, ps, r1.dp hp, .inl (.lst (SqL.of hL1) (rs1.dp hps)), hc.1, hc.2, _, rfl, h1 _ _ S1 f1 (Bool.false_xor _)⟩
      · exact h1.elim
    · exact h1.elim
  · exact h1.elim
/-- tuple(x) -/
def eTupA (i : Nat) : EvE := fun δ ω => match δ[i]? with
  | some (.val .st) => .ok (.tup ω.acc) ω
  | _ => .bad
theorem pd_tupA {i : Nat} {x : Str} {np p : Pos} {w : XK} (hN : X.N[i]? = some x) (hm : X.mg "tuple" = none) (hg : Gl X "tuple" := by rfl) (hv : Vis X.env.scope x := by first | exact Or.inl rfl | exact Or.inr (Or.inl rfl) | exact Or.inr (Or.inr rfl)) (hd : (x == ("__debug__" : Str)) = false := by decide) (hcd : (x == ("__classdict__" : Str)) = false := by decide)
    (hs0 : starEach [.Name x np] X.env = (false, eval (.Name x np) X.env) :: starEach [] X.env := by rfl) (hpl : (backTo pos (starEach [] X.env)).any (·.1) = false := by rfl) :
    PEd X ⟨w, AccP X.K⟩ (.Call (.Name "tuple" p) [.Name x np] [] pos) (eTupA i) := by
  refine ⟨_, pe_callTy call_tuple_of hg hm (by decide +kernel) (pa_cons (pe_var (i := i) hN hv hd hcd) pa_nil hs0) (by decide) (by decide) hs0 hpl, fun M al σ H δ ω Q S h => ?_⟩
  unfold eTupA at h
  split at h
  · rename_i eo
    obtain ⟨hσ, xs, hL, hl, r, hp⟩ := S.accAt eo
    refine ⟨_, hσ, _, _, rfl, .inl ⟨SqL.of hL, fun l hl0 => h _ _ (S.same (same_upd hl0)) (.same (same_upd hl0)) (.tup (SqT.of upd_same) hl ((same_reps (same_upd hl0) r).pure hp))⟩⟩
  · exact h.elim
end
end DL

namespace DL
open PySem PySem.Spec PyProof.Rows L2 LamX RZ
section
variable {X : Cx} {W : Wt} {P : PP} {K : PySem.W.Frag} {M : Fm} {al : Nat → Option Addr} {σ : L2.St} {H : Hp} {δ : Sls} {ω : Om}
variable {a b e c : Expr} {es : List Expr} {fa fb fc : EvE} {ft : EvT} {gs : EvS} {fs : EvA} {pos : Pos} {rest : List Stmt}
/-! ### return -/
def sRetN : EvS := fun _ ω => .ok (.rt .non) ω
theorem sd_retN : PSd X W (.Return none pos) sRetN := ⟨_, ps_retN, fun M al σ H δ ω D S h => h .non H S.fr S.g .non⟩
/-! ### zip of two tuples, of two lists -/
def zipD (xs ys : List D) : List D := (xs.zip ys).map fun p => .tup [p.1, p.2]
theorem zipD_length (xs ys : List D) : (zipD xs ys).length = min xs.length ys.length := by
  unfold zipD
  rw [List.length_map, List.length_zip]
theorem zipD_get {xs ys : List D} {i : Nat} {d e : D} (h : xs[i]? = some d) (h2 : ys[i]? = some e) : (zipD xs ys)[i]? = some (.tup [d, e]) := by
  unfold zipD
  rw [List.getElem?_map, show (xs.zip ys)[i]? = some (d, e) from List.getElem?_zip_eq_some.mpr ⟨h, h2⟩]
  rfl
def iZip (fs : EvA) : EvI := fun δ ω => (fs δ ω).bind fun ds ω1 => match ds with
  | [.tup xs, .tup ys] => .ok (zipD xs ys) ω1
  | [.lst xs, .lst ys] => .ok (zipD xs ys) ω1
  | _ => .bad
theorem itD_zipT {sa : Addr} {N : Addr → Prop} {a b : Addr} {xs ys : List V} {ds es : List D} (ha : SqT K H a xs) (hb : SqT K H b ys) (hl : xs.length ≤ sizeLine) (r : Reps K sa N H xs ds) (r2 : Reps K sa N H ys es) : ItD K sa N (ItzT K a b) H (zipD ds es) := ⟨by rw [zipD_length, ← r.len]; exact Nat.le_trans (Nat.min_le_left _ _) hl, fun N' Z hn hz i H' f => by
  have h1 : SqT K H' a xs := f.sqT ha
  have h2 : SqT K H' b ys := f.sqT hb
  rw [zipD_length]
  refine ⟨fun hi => ?_, fun hi => ⟨xs, ys, h1, h2, ?_⟩⟩
  · have hx : i < xs.length := by rw [r.len]; omega
    have hy : i < ys.length := by rw [r2.len]; omega
    refine ⟨⟨xs, ys, xs[i], ys[i], h1, h2, List.getElem?_eq_getElem hx, List.getElem?_eq_getElem hy⟩, fun x H'' y => ?_⟩
    obtain ⟨T, x0, y0, rfl, hT, rfl, hx0, hy0⟩ := y
    obtain ⟨d, hd, rd⟩ := r.get (hx0 xs h1)
    obtain ⟨e, he, re⟩ := r2.get (hy0 ys h2)
    have sm := same_upd (o := .tup [x0, y0]) hT
    exact ⟨sm, _, zipD_get hd he, .tup (SqT.of upd_same) (by show 2 ≤ sizeLine; decide) (.cons (same_rep sm (rd.onto hn hz f)) (.cons (same_rep sm (re.onto hn hz f)) .nil))⟩
  · rw [r.len, r2.len]
    omega⟩
theorem itD_zipL {sa : Addr} {N : Addr → Prop} {a b : Addr} {xs ys : List V} {ds es : List D} (ha : H a = some (.lst xs)) (na : ¬ N a) (hb : H b = some (.lst ys)) (nb : ¬ N b) (hl : xs.length ≤ sizeLine) (r : Reps K sa N H xs ds) (r2 : Reps K sa N H ys es) : ItD K sa N (Itz K a b) H (zipD ds es) := ⟨by rw [zipD_length, ← r.len]; exact Nat.le_trans (Nat.min_le_left _ _) hl, fun N' Z hn hz i H' f => by
  have h1 : SqL K H' a xs := SqL.of (f.keep _ _ ha fun z => na (hz _ z))
  have h2 : SqL K H' b ys := SqL.of (f.keep _ _ hb fun z => nb (hz _ z))
  rw [zipD_length]
  refine ⟨fun hi => ?_, fun hi => ⟨xs, ys, h1, h2, ?_⟩⟩
  · have hx : i < xs.length := by rw [r.len]; omega
    have hy : i < ys.length := by rw [r2.len]; omega
    refine ⟨⟨xs, ys, xs[i], ys[i], h1, h2, List.getElem?_eq_getElem hx, List.getElem?_eq_getElem hy⟩, fun x H'' y => ?_⟩
    obtain ⟨T, x0, y0, rfl, hT, rfl, hx0, hy0⟩ := y
    obtain ⟨d, hd, rd⟩ := r.get (hx0 xs h1)
    obtain ⟨e, he, re⟩ := r2.get (hy0 ys h2)
    have sm := same_upd (o := .tup [x0, y0]) hT
    exact ⟨sm, _, zipD_get hd he, .tup (SqT.of upd_same) (by show 2 ≤ sizeLine; decide) (.cons (same_rep sm (rd.onto hn hz f)) (.cons (same_rep sm (re.onto hn hz f)) .nil))⟩
  · rw [r.len, r2.len]
    omega⟩
theorem id_zip {p tpos : Pos} {elts : List Expr} {kk : Nat} (hm : X.mg "zip" = none) (h : PAd X W [a, b] fs) (hg : Gl X "zip" := by rfl) (hs : starEach [a, b] X.env = (false, eval a X.env) :: starEach [b] X.env := by rfl) (hpl : (backTo pos (starEach [b] X.env)).any (·.1) = false := by rfl) :
    PId X W (.Tuple elts kk tpos) (.Call (.Name "zip" p) [a, b] [] pos) (iZip fs) := by
  obtain ⟨t, p1, q1⟩ := h.ex
  refine ⟨_, pi_zipA hg hm p1 hs hpl, fun M al σ H δ ω R S h => ?_⟩
  refine q1 M al σ H δ ω _ S (post_mono (fun x H1 h1 => ?_) (post_bind (rel := relA X.K M al) h))
  obtain ⟨d1, ω1, e1, S1, f1, r1, h1⟩ := h1
  split at h1
  · obtain ⟨v, w, rfl, r, r2⟩ := r1.two
    cases r with
    | tup h l r =>
      cases r2 with
      | tup h2 l2 r2 => exact ⟨_, _, _, _, rfl, .inr ⟨h, h2, h1 _ _ S1 f1 (itD_zipT h h2 l r r2)⟩⟩
  · obtain ⟨v, w, rfl, r, r2⟩ := r1.two
    cases r with
    | lst h n l r =>
      cases r2 with
      | lst h2 n2 l2 r2 => exact ⟨_, _, _, _, rfl, .inl ⟨SqL.of h, SqL.of h2, h1 _ _ S1 f1 (itD_zipL h n h2 n2 l r r2)⟩⟩
  · exact h1.elim
/-! ### a <= b <= c as a test -/
theorem chain_ok {r r' : R2} {g g' : D → D → Option D} {ta tb tc : TE} (hg : Op2 X.K r g) (hg' : Op2 X.K r' g')
    (q1 : ∀ M al σ H δ ω Q, DSt X.K W.P M al σ H δ ω → PostR X.K M al σ H δ (relE X.K M al) (fa δ ω) Q W → ta σ H Q)
    (q2 : ∀ M al σ H δ ω Q, DSt X.K W.P M al σ H δ ω → PostR X.K M al σ H δ (relE X.K M al) (fb δ ω) Q W → tb σ H Q)
    (q3 : ∀ M al σ H δ ω Q, DSt X.K W.P M al σ H δ ω → PostR X.K M al σ H δ (relE X.K M al) (fc δ ω) Q W → tc σ H Q) :
    ∀ M al σ H δ ω Q, DSt X.K W.P M al σ H δ ω → PostR X.K M al σ H δ (relE X.K M al) (eChain g g' fa fb fc δ ω) Q W → tChain r r' ta tb tc σ H Q := fun M al σ H δ ω Q S h => by
  refine q1 M al σ H δ ω _ S (post_mono (fun x H1 h1 => ?_) (post_bind (rel := relE X.K M al) h))
  obtain ⟨d1, ω1, _, S1, f1, r1, h1⟩ := h1
  refine q2 M al σ H1 δ ω1 _ S1 (post_mono (fun y H2 h2 => ?_) (post_bind (rel := relE X.K M al) (post_from f1 h1)))
  obtain ⟨d2, ω2, _, S2, f2, r2, h2⟩ := h2
  split at h2
  · rename_i eg
    refine hg.ok M.sa (NA M.N al) H2 x y d1 d2 _ _ (r1.mono f2 S1.zna) r2 eg S2.naT fun v H3 sm rv => ?_
    cases rv
    refine ⟨true, rfl, ?_⟩
    rw [if_pos rfl]
    refine q3 M al σ H3 δ ω2 _ (S2.same sm) (post_mono (fun z H4 h4 => ?_) (post_bind (rel := relE X.K M al) (post_from (f2.trans (.same sm)) h2)))
    obtain ⟨d3, ω3, _, S4, f4, r3, h4⟩ := h4
    unfold rs1 at h4
    split at h4
    · rename_i d e
      exact hg'.ok M.sa (NA M.N al) H4 y z d2 d3 d Q ((same_rep sm r2).mono f4 S2.zna) r3 e S4.naT fun v H' s q => h4 v H' (S4.same s) (f4.trans (.same s)) q
    · exact h4.elim
  · rename_i eg
    refine hg.ok M.sa (NA M.N al) H2 x y d1 d2 _ _ (r1.mono f2 S1.zna) r2 eg S2.naT fun v H3 sm rv => ?_
    cases rv
    refine ⟨false, rfl, ?_⟩
    rw [if_neg (by decide)]
    exact h2 _ H3 (S2.same sm) (f2.trans (.same sm)) (.bl false)
  · exact h2.elim
theorem td_chain {op op' : CmpOp} {r r' : R2} {g g' : D → D → Option D} (ho : OpR X (compareOp op) r) (ho' : OpR X (compareOp op') r') (hg : Op2 X.K r g) (hg' : Op2 X.K r' g') (ha : PEd X W a fa) (hb : PEd X W b fb) (hc : PEd X W c fc)
    (hm : lastMarks [op, op'] [b, c] = false := by with_unfolding_all rfl) : PTd X W (.Compare a [op, op'] [b, c] pos) (DL.tB (eChain g g' fa fb fc)) := by
  obtain ⟨ta, p1, q1⟩ := ha.ex
  obtain ⟨tb, p2, q2⟩ := hb.ex
  obtain ⟨tc, p3, q3⟩ := hc.ex
  refine ⟨_, pt_chain ho ho' p1 p2 p3 hm, fun M al σ H δ ω Q S h => ?_⟩
  refine chain_ok hg hg' q1 q2 q3 M al σ H δ ω _ S (post_mono (fun x H1 h1 => ?_) (post_bind (rel := relE X.K M al) h))
  obtain ⟨d1, ω1, e1, S1, f1, r1, h1⟩ := h1
  cases r1 <;> first | exact ⟨_, rfl, h1 _ _ S1 f1 rfl⟩ | exact h1.elim
/-! ### x, y = list(e), [] where both are lists of the def's own, one of them a cell -/
theorem sd_parLNc {fs : EvA} {i j : Nat} {x y : Str} {px py pt lp p0 p1' : Pos} {kt k2 : Nat} {pt2 : Pos} (hc : X.calm = true) (hN : X.N.Nodup) (hi : X.N[i]? = some x) (hj : X.N[j]? = some y) (hij : i ≠ j)
    (hx : Loc X.env.scope x) (hy : Loc X.env.scope y) (hf : X.fn x = true ∨ X.env.scope.names.lookup x = some .local) (hf2 : X.fn y = true ∨ X.env.scope.names.lookup y = some .local) (hm : X.mg "list" = none) (ha : PAd X W [e] fs) (hg : Gl X "list" := by rfl)
    (hw : swappedStores [.Tuple [.Name x px, .Name y py] kt pt] (.Tuple [.Call (.Name "list" p0) [e] [] p1', .List [] lp] k2 pt2) X.env = pure none := by rfl)
    (hs : swapsWithSole [.Tuple [.Name x px, .Name y py] kt pt] (.Tuple [.Call (.Name "list" p0) [e] [] p1', .List [] lp] k2 pt2) pos.line X.env = pure false := by rfl)
    (h1 : (assignEach [.Tuple [.Name x px, .Name y py] kt pt] X.env).map (·.2) = [assign (.Tuple [.Name x px, .Name y py] kt pt) X.env] := by rfl)
    (ht1 : (assignEach (.Name x px :: [.Name y py]) X.env).map (·.2) = assign (.Name x px) X.env :: (assignEach [.Name y py] X.env).map (·.2) := by rfl) (ht2 : (assignEach (.Name y py :: []) X.env).map (·.2) = assign (.Name y py) X.env :: (assignEach [] X.env).map (·.2) := by rfl)
    (hn : (assignEach [.Name x px, .Name y py] X.env).length = 2 := by rfl) (hst : (assignEach [.Name x px, .Name y py] X.env).findIdx? (·.1) = none := by rfl)
    (hs0 : starEach [e] X.env = (false, eval e X.env) :: starEach [] X.env := by rfl) (hpl : (backTo p1' (starEach [] X.env)).any (·.1) = false := by rfl)
    (hs1 : starEach (.Call (.Name "list" p0) [e] [] p1' :: [.List [] lp]) X.env = (false, eval (.Call (.Name "list" p0) [e] [] p1') X.env) :: starEach [.List [] lp] X.env := by rfl)
    (hs2 : starEach [.List [] lp] X.env = (false, eval (.List [] lp) X.env) :: starEach [] X.env := by rfl) :
    PSd X W (.Assign [.Tuple [.Name x px, .Name y py] kt pt] (.Tuple [.Call (.Name "list" p0) [e] [] p1', .List [] lp] k2 pt2) pos) (sParLN i j fs) := by
  obtain ⟨t, p1, q1⟩ := ha.ex
  refine ⟨_, ps_asg (pe_tup (pa_cons (pe_callTy call_list_of hg hm (by decide +kernel) p1 (by decide) (by decide) hs0 hpl) (pa_cons (pe_lst pa_nil) pa_nil hs2) hs1)) (pg_tup hc (pgs_cons (pg_name hN hi hx hf) (pgs_cons (pg_name hN hj hy hf2) pgs_nil ht2) ht1) hn hst) hs hw h1, fun M al σ H δ ω DD S h => ?_⟩
  refine q1 M al σ H δ ω _ S (post_mono (fun vs H1 h1 => ?_) (posts_bind (rel := relA X.K M al) S.fr h))
  obtain ⟨as, ω1, e1, S1, f1, r1, h1⟩ := h1
  split at h1
  · rename_i d
    split at h1
    · rename_i ds ed
      split at h1
      · rename_i hlt
        obtain ⟨v, rfl, r⟩ := r1.one
        have main : ∀ (ys : List V), ys.length ≤ sizeLine → Reps X.K M.sa (NA M.N al) H1 ys ds → ∀ l, H1 l = none → ∀ L, (upd H1 l (.lst ys)) L = none → ∀ T, (upd (upd H1 l (.lst ys)) L (.lst [])) T = none → DD.nx ((σ.set i (some (.ref l))).set j (some (.ref L))) (upd (upd (upd H1 l (.lst ys)) L (.lst [])) T (.tup [.ref l, .ref L])) := fun ys hl ry l hl0 L hL0 T hT0 => by
          have S2 := ((S1.setOwn (i := i) (xs := ys) hl0 hlt.1 hl ry).setOwn (i := j) (xs := []) hL0 (by rw [List.length_set]; exact hlt.2) (Nat.zero_le _) .nil).same (same_upd (o := .tup [.ref l, .ref L]) hT0)
          refine h1 _ _ _ S2 (((f1.trans (.same (same_upd hl0))).trans (.same (same_upd hL0))).trans (.same (same_upd hT0))).s fun k a q => ?_
          by_cases e : k = j
          · simp only [e, if_pos] at q
            cases q
            exact .inr fun z => Tr.not hL0 ((f1.trans (.same (same_upd hl0))).there L z)
          · simp only [if_neg e] at q
            by_cases e2 : k = i
            · simp only [e2, if_pos] at q
              cases q
              exact .inr fun z => Tr.not hl0 (f1.there l z)
            · simp only [if_neg e2] at q; exact .inl ⟨k, q⟩
        cases r with
        | tup hb lb rb =>
          cases ed
          exact ⟨_, _, rfl, .inr hb, fun l hl0 => ⟨Nat.zero_le _, fun L hL0 => ⟨by show 2 ≤ sizeLine; decide, fun T hT0 => ⟨T, [.ref l, .ref L], rfl, SqT.of upd_same, rfl, _, [_], rfl, _, [], rfl, rfl, main _ lb rb l hl0 L hL0 T hT0⟩⟩⟩⟩
        | lst hb nb lb rb =>
          cases ed
          exact ⟨_, _, rfl, .inl (SqL.of hb), fun l hl0 => ⟨Nat.zero_le _, fun L hL0 => ⟨by show 2 ≤ sizeLine; decide, fun T hT0 => ⟨T, [.ref l, .ref L], rfl, SqT.of upd_same, rfl, _, [_], rfl, _, [], rfl, rfl, main _ lb rb l hl0 L hL0 T hT0⟩⟩⟩⟩
        | _ => exact nomatch ed
      · exact h1.elim
    · exact h1.elim
  · exact h1.elim
/-! ### a tuple of texts at the module's top -/
def strsB : List Value → List Str → Bool
  | [], [] => true
  | .str y _ :: vs, k :: ks => decide (y = k) && strsB vs ks
  | _, _ => false
def tupB (K : PySem.W.Frag) (a : Addr) (ks : List Str) : Bool := match K.lookup a with
  | some o => match o.data with
    | .seq its _ => decide (o.cls = .type "tuple") && (strsB its.toList ks && decide (its.size ≤ sizeLine))
    | _ => false
  | none => false
theorem strsB_vals : ∀ {vs : List Value} {ks : List Str}, strsB vs ks = true → Vals (ks.map V.str) vs
  | [], [], _ => .nil
  | .str y t :: vs, k :: ks, h => by
    have h' : (decide (y = k) && strsB vs ks) = true := h
    rw [Bool.and_eq_true] at h'
    have e := of_decide_eq_true h'.1
    subst e
    exact .cons ⟨t, rfl⟩ (strsB_vals h'.2)
theorem tupB_rep {a : Addr} {ks : List Str} (h : tupB K a ks = true) {sa : Addr} {N : Addr → Prop} {H : Hp} : Rep K sa N H (.ref a) (.tup (ks.map .str)) := by
  unfold tupB at h
  split at h
  · rename_i o ho
    split at h
    · rename_i its n hd
      rw [Bool.and_eq_true, Bool.and_eq_true] at h
      have v := strsB_vals h.2.1
      have hs : its.size ≤ sizeLine := of_decide_eq_true h.2.2
      exact .tup (.inr ⟨o, its, n, ho, of_decide_eq_true h.1, hd, hs, v⟩) (by rw [v.length]; simpa using hs) (strs_reps ks)
    · cases h
  · cases h
theorem pd_gtup {x : Str} {ks : List Str} {p : Pos} (hm : X.mg x = some (.ref (He.ga X.K x))) (ht : tupB X.K (He.ga X.K x) ks = true) (hg : Gl X x := by rfl) (hd : (x == ("__debug__" : Str)) = false := by decide) : PEd X W (.Name x p) (eC (.tup (ks.map .str))) :=
  pd_glob (v := .ref (He.ga X.K x)) ⟨_, hm, rfl⟩ (fun _ _ _ => tupB_rep ht) hg hd
end
theorem units65 {k : Nat} {A : Around} (r : Room k A) : A.units + 65 < cLine := by
  have := r.un
  omega
/-! ### a def of which nothing is promised -/
theorem cal_bad {Pr : Program} {w : World} {K : PySem.W.Frag} {mg : Str → Option Value} {base : Heap} {x : Str} {k : Nat} {ps : List Str} {P : PP} {st : Stmt} {qual : Str} {fd : FuncData} (F : FunD K x qual (defArgs st) (defBody st) (defScope st) [] [] (He.ga K x) fd) (hm : mg x = some (.ref (He.ga K x)))
    (bd : ∀ (kV doc pm : Value) (an : Option Addr) (cdv ct : Value) (us : List Value), us.length = ps.length → bindArgs (PySem.W.fnOf x qual (defArgs st) (defBody st) (defScope st) .none kV doc pm an cdv ct) ⟨us, []⟩ = pure (ps.zip us)) : Cal Pr w K mg base x k ps P fun _ _ => .bad := by
  have hB := F.bindsN bd
  have hkp := F.kp
  obtain ⟨oc, od, dV, kV, doc, pm, an, cdv, ct, osl, rfl, lk, hcd, _, _⟩ := F.ex
  refine ⟨⟨_, ⟨fun vs H Q E h => ?_, fun A outer s H args us vs Q E hr e0 hb r h => ?_⟩, hB, _, _, _, lk⟩, hm, hkp⟩
  · exact h.1
  · obtain ⟨_, M, ds, ω, _, _, _, _, _, _, _, h⟩ := h
    exact h.elim
/-- runs at a level, of what was promised at a lower one -/
theorem Cal.up {Pr : Program} {w : World} {K : PySem.W.Frag} {mg : Str → Option Value} {base : Heap} {x : Str} {k k' : Nat} {ps : List Str} {P : PP} {fn : List D → Om → Rs D} (h : k ≤ k') (c : Cal Pr w K mg base x k ps P fn) : Cal Pr w K mg base x k' ps P fn := by
  obtain ⟨fd, F, B, L⟩ := c.ex
  exact ⟨⟨fd, ⟨F.len, fun A outer s H args us vs Q E hr e0 hb r hs => F.run A outer s H args us vs Q E (hr.mono h) e0 hb r hs⟩, B, L⟩, c.hm, c.hk⟩
end DL

namespace DL
open PySem PySem.Spec PyProof.Rows L2 LamX
/-! ### enumerate over a tuple -/
section
/-- what enumerate makes of one thing -/
abbrev enumO (n : Nat) : Obj := { cls := .type "enumerate", data := .fields #[.none, .bool false, .ref n, rawInt 0, .none, .none] }
theorem enum_new1 {v : Value} {o : Obj} {G : Heap → Prop} (B : Begins v o G) : Meets (Builtin.«enumerate.__new__» ⟨[.type "enumerate", v], []⟩) (fun _ R s => G s.heap ∧ R (.ok (.ret (.ref (s.heap.push o).objs.size))) { s with heap := (s.heap.push o).push (enumO s.heap.objs.size) }) := .of_wp fun prog w A R s z => by
  obtain ⟨hp, gl, di, tk, os⟩ := s; obtain ⟨z1, z2⟩ := z
  have hsub := sub_enumerate
  have go : ∀ {A' : Around} {E Q : Value → Shared → Prop}, Q (.ref hp.objs.size) ⟨hp.push o, gl, di, tk, os⟩ → wpAny (model prog w) A' (pyIter v) Q E ⟨hp, gl, di, tk, os⟩ := fun q => B.iter prog w _ _ ⟨hp, gl, di, tk, os⟩ _ z1 q
  wp_walk using go
  refine wpAny_stack_any fun st => wpAny_pure ?_; split
  · rename_i c _ _ _ _ _; cases (c == Value.type "enumerate") <;> (wp_walk using go; exact ⟨_, rfl, z2⟩)
  · wp_walk using go; exact ⟨_, rfl, z2⟩
theorem enum_call1 {prog : Program} {w : World} {A : Around} {E Q : Value → Shared → Prop} {s : Shared} {v : Value} {o : Obj} {G : Heap → Prop} (B : Begins v o G) (g : G s.heap)
    (h : ∀ h', IsEnum h' (s.heap.objs.size + 1) s.heap.objs.size 0 .none → h'.get? s.heap.objs.size = some o → (∀ b ob, s.heap.get? b = some ob → h'.get? b = some ob) → Q (.ref (s.heap.objs.size + 1)) { s with heap := h' }) : wpAny (model prog w) A (call (.type "enumerate") [v]) Q E s := by
  refine callType_new F.called_enumerate (by decide) (F.typeCall_enumerate_1 _) (F.newCall_enumerate_1 _) (fun obj => F.args_object_init_2 obj _) F.entry_enumerate_new (enum_new1 B) ⟨g, ?_⟩
  have e1 : (s.heap.push o).objs.size = s.heap.objs.size + 1 := Heap.size_push ..
  show _ ∧ _; rw [e1]
  have e2 : IsEnum ((s.heap.push o).push (enumO s.heap.objs.size)) (s.heap.objs.size + 1) s.heap.objs.size 0 .none := by
    have e3 := Heap.get?_push_size (s.heap.push o) (o := enumO s.heap.objs.size) rfl
    rw [e1] at e3; exact e3
  exact ⟨⟨_, e2, rfl⟩, h _ e2 (Heap.get?_push_of_some _ (Heap.get?_push_size _ B.free)) fun b ob x => Heap.get?_push_of_some _ (Heap.get?_push_of_some _ x)⟩
/-- the items of the tuple at a, numbered -/
def IteT (K : PySem.W.Frag) (a : Addr) (n : Nat) : It :=
  ⟨fun i H => ∃ (xs : List V) (x : V), SqT K H a xs ∧ xs.length = n ∧ xs[i]? = some x, fun i H v H' => ∃ T x, v = .ref T ∧ H T = none ∧ H' = upd H T (.tup [.int (i : Nat), x]) ∧ (∀ xs, SqT K H a xs → xs[i]? = some x), fun i H => ∃ xs : List V, SqT K H a xs ∧ xs.length = n ∧ n ≤ i⟩
theorem turn_enumT {P : Program} {w : World} {K : PySem.W.Frag} {elts : List Expr} {kk : Nat} {tpos : Pos} (a e it : Addr) (n : Nat) :
    Turn P w K (.Tuple elts kk tpos) (IteT K a n) [e, it] e (fun i h => (∃ old, IsEnum h e it ((i : Nat) : Int) old) ∧ h.IsTupleIter it a i ∧ e ≠ it ∧ e ≠ a ∧ a ≠ it ∧ i ≤ n) where
  mem := by simp
  obj := fun i h st b hb => by
    obtain ⟨⟨old, he⟩, ⟨o, ho, hc, hd⟩, _⟩ := st
    have z : b = e ∨ b = it := by simpa using hb
    rcases z with rfl | rfl; exact ⟨_, he, fun v q => nomatch q⟩; exact ⟨o, ho, fun v q => by rw [hd] at q; cases q⟩
  keep := fun i h h' st k => let ⟨⟨old, he⟩, hi, r⟩ := st; ⟨⟨old, k e (by simp) _ he⟩, hi.at fun o q => k it (by simp) o q, r⟩
  item := by
    intro X hP hw hK hc i pins s σ H E I hf st hg; subst hP hw hK
    obtain ⟨⟨old, he⟩, hit, n1, n2, n3, n4⟩ := st
    obtain ⟨xs, x, hq, hn, hx⟩ := hg
    obtain ⟨its, rv, p, hz⟩ := I.tuple hq
    obtain ⟨u, hu, ru⟩ := rv.get hx
    have l1 : e < s.heap.objs.size := Heap.lt_size he
    have l2 : it < s.heap.objs.size := by obtain ⟨_, q, _⟩ := hit; exact Heap.lt_size q
    have DT := Draws.tuple (prog := X.prog) (w := X.w) (A := X.A.in1) (I.ok.hd hc) it a n3 its.toArray
    have lt : i < its.toArray.size := by have := (List.getElem?_eq_some_iff.mp hu).1; simpa using this
    refine wpAny_pyNext_enum_itemC DT he ⟨hit, p⟩ lt n1 (by simp [n1, n2]) fun u' h' tk hu' ho st' hT hsz hk => ?_
    have eu : u' = u := by have q : its[i]? = some u' := by simpa using hu'
                           rw [hu] at q; exact (Option.some.inj q).symm
    subst eu
    refine ⟨_, rfl, wpAny_letOwnedTupleGo_enum (s := { s with heap := h', toks := tk + 1 }) ho fun h2 he2 sb => ?_⟩
    have hT2 : h2.get? s.heap.objs.size = some { cls := .type "tuple", data := .seq #[.int i tk, u'] } := (sb.2 _ (Nat.ne_of_gt l1)).trans hT
    have new : ObjOk X.prog X.w (upd H s.heap.objs.size (.tup [.int (i : Nat), x])) h2 s.heap.objs.size (.tup [.int (i : Nat), x]) := ⟨by show 2 ≤ sizeLine; decide, [.int i tk, u'], .cons ⟨_, rfl⟩ (.cons ru .nil), ⟨_, hT2, rfl, _, rfl⟩⟩
    have I1 : Inv X pins σ (upd H s.heap.objs.size (.tup [.int (i : Nat), x])) { s with heap := h2, toks := tk + 1 } := I.turnedNew (ch := [e, it]) (fun b ob hb q => (sb.2 b fun z => hb (by simp [z])).trans (hk b ob (fun z => hb (by simp [z])) (fun z => hb (by simp [z])) q)) hf (Nat.le_refl _) new
    refine ⟨.ref s.heap.objs.size, _, I1, rfl, ⟨_, x, rfl, I.hok.fresh (Nat.le_refl _), rfl, fun ys hy => by rw [I.tuple_inj hy hq]; exact hx⟩, ⟨⟨u', ?_⟩, st'.1.at fun o q => (sb.2 it (Ne.symm n1)).trans q, n1, n2, n3, by have := (List.getElem?_eq_some_iff.mp hx).1; omega⟩, fun b hb => ?_⟩
    · rw [show ((i + 1 : Nat) : Int) = (i : Int) + 1 by omega]; exact he2
    · have hb' : b < s.heap.objs.size := by
        have z : b = e ∨ b = it := by simpa using hb
        rcases z with rfl | rfl <;> assumption
      rw [upd_ne (Nat.ne_of_lt hb')]; exact (hf b hb).1
  done := by
    intro X hP hw hK hc i pins s σ H E I hf st hg; subst hP hw hK
    obtain ⟨⟨old, he⟩, hit, n1, n2, n3, n4⟩ := st; obtain ⟨xs, hq, hn, hx⟩ := hg
    obtain ⟨its, rv, p, hz⟩ := I.tuple hq; obtain ⟨f0, f1, f2, f3, f4, f5⟩ := hf it (by simp)
    have DT := Draws.tuple (prog := X.prog) (w := X.w) (A := X.A.in1) (I.ok.hd hc) it a n3 its.toArray
    have ei : i = its.toArray.size := by have := rv.length; rw [List.size_toArray]; omega
    rw [ei] at hit
    exact wpAny_pyNext_enum_endD DT he ⟨hit, p⟩ fun h' eb => ⟨rfl, I.turned (t' := s.toks) (fun b o hb q => eb b o hb q) f0 f1 f3 f4 f5⟩
  self := fun A i s Q E st h => let ⟨⟨_, he⟩, _⟩ := st; wpAny_pyIter_enum he h
variable {X : Cx} {W : Wt} {K : PySem.W.Frag} {H : Hp} {δ : Sls}
variable {a e : Expr} {fs : EvA} {pos : Pos}
theorem pi_enumT {ta : TA} {p tpos : Pos} {elts : List Expr} {kk : Nat} (hg : Gl X "enumerate") (hm : X.mg "enumerate" = none) (ha : PA X [e] ta) (hs : starEach [e] X.env = [(false, eval e X.env)] := by rfl) :
    PI X (.Tuple elts kk tpos) (.Call (.Name "enumerate" p) [e] [] pos) (fun σ H R => ta σ H fun vs H1 => (∃ x, vs = [.str x] ∧ R (Ites x) H1) ∨ (∃ a xs, vs = [.ref a] ∧ SqL X.K H1 a xs ∧ R (Ite X.K a) H1) ∨ ∃ a xs, vs = [.ref a] ∧ SqT X.K H1 a xs ∧ R (IteT X.K a xs.length) H1) := by
  refine ⟨fun pins s σ H R I h => ?_⟩
  refine Call_ (ld_blt I hg hm boot_enumerate (PyProof.Rows.callWith_type1 (thn (ha.run pos pins s σ H _ I h) fun us s1 ⟨vs, H1, I1, r1, q1⟩ => ?_) hs rfl))
  have fpo : ∀ b ∈ [s1.heap.objs.size + 1, s1.heap.objs.size], s1.heap.objs.size ≤ b := fun b hb => by
    have z : b = s1.heap.objs.size + 1 ∨ b = s1.heap.objs.size := by simpa using hb
    rcases z with z | z <;> rw [z]
    · exact Nat.le_add_right _ _
    · exact Nat.le_refl _
  rcases q1 with ⟨x, ex, q⟩ | ⟨a, xs, ex, hq, q⟩ | ⟨a, xs, ex, hq, q⟩
  · subst ex
    obtain ⟨u, rfl, r⟩ : ∃ u, us = [u] ∧ RelV (.str x) u := by cases r1 with | cons r rr => cases rr; exact ⟨_, rfl, r⟩
    obtain ⟨t, rfl⟩ := r
    refine call_enumerate_str fun h' he hit hsz hk => wpAny_pyIter_enum he ?_
    exact ⟨s1.heap.objs.size + 1, [s1.heap.objs.size + 1, s1.heap.objs.size], _, _, H1, rfl, I1.kept (t' := s1.toks) hk, turn_enumS x t (s1.heap.objs.size + 1) s1.heap.objs.size, ⟨⟨.none, he⟩, hit, Nat.succ_ne_self _, Nat.zero_le _⟩, fun b hb => I1.fpOk (fpo b hb) (I1.hok.fresh (fpo b hb)), q⟩
  · subst ex
    obtain ⟨u, rfl, r⟩ : ∃ u, us = [u] ∧ RelV (.ref a) u := by cases r1 with | cons r rr => cases rr; exact ⟨_, rfl, r⟩
    cases r
    obtain ⟨its, rv, p', hz⟩ := I1.list hq
    refine call_enumerate_list p'.isList fun h' he hit hsz hk => wpAny_pyIter_enum he ?_
    exact ⟨s1.heap.objs.size + 1, [s1.heap.objs.size + 1, s1.heap.objs.size], _, _, H1, rfl, I1.kept (t' := s1.toks) hk, turn_enum a (s1.heap.objs.size + 1) s1.heap.objs.size, ⟨⟨.none, he⟩, hit, Nat.succ_ne_self _⟩, fun b hb => I1.fpOk (fpo b hb) (I1.hok.fresh (fpo b hb)), q⟩
  · subst ex
    obtain ⟨u, rfl, r⟩ : ∃ u, us = [u] ∧ RelV (.ref a) u := by cases r1 with | cons r rr => cases rr; exact ⟨_, rfl, r⟩
    cases r
    obtain ⟨its, rv, p', hz⟩ := I1.tuple hq
    have la : a < s1.heap.objs.size := by obtain ⟨_, z, _⟩ := (show s1.heap.IsTuple a its.toArray from p'); exact Heap.lt_size z
    refine enum_call1 (begins_tuple a its.toArray) p' fun h' he hit hk => wpAny_pyIter_enum he ?_
    exact ⟨s1.heap.objs.size + 1, [s1.heap.objs.size + 1, s1.heap.objs.size], _, _, H1, rfl, I1.kept (t' := s1.toks) hk, turn_enumT a (s1.heap.objs.size + 1) s1.heap.objs.size xs.length, ⟨⟨.none, he⟩, ⟨_, hit, rfl, rfl⟩, Nat.succ_ne_self _, Nat.ne_of_gt (Nat.lt_succ_of_lt la), Nat.ne_of_lt la, Nat.zero_le _⟩, fun b hb => I1.fpOk (fpo b hb) (I1.hok.fresh (fpo b hb)), q⟩
theorem itD_enumT {sa : Addr} {N : Addr → Prop} {a : Addr} {xs : List V} {ds : List D} (ha : SqT K H a xs) (hl : xs.length ≤ sizeLine) (r : Reps K sa N H xs ds) : ItD K sa N (IteT K a xs.length) H (numbered ds) := ⟨by rw [numbered_length, ← r.len]; exact hl, fun N' Z hn hz i H' f => by
  have h' : SqT K H' a xs := f.sqT ha
  rw [numbered_length]
  refine ⟨fun hi => ?_, fun hi => ⟨xs, h', rfl, by rw [r.len]; exact hi⟩⟩
  have hx : i < xs.length := by rw [r.len]; exact hi
  refine ⟨⟨xs, xs[i], h', rfl, List.getElem?_eq_getElem hx⟩, fun x H'' y => ?_⟩
  obtain ⟨T, x0, rfl, hT, rfl, hx0⟩ := y
  obtain ⟨d, hd, rd⟩ := r.get (hx0 xs h')
  have sm := same_upd (o := .tup [.int (i : Nat), x0]) hT
  exact ⟨sm, _, numbered_get hd, .tup (SqT.of upd_same) (by show 2 ≤ sizeLine; decide) (.cons (.int _) (.cons (same_rep sm (rd.onto hn hz f)) .nil))⟩⟩
/-- enumerate(e), of a text, a list, a tuple -/
def iEnumA (fs : EvA) : EvI := fun δ ω => (fs δ ω).bind fun ds ω1 => match ds with
  | [.str x] => if x.length ≤ sizeLine then .ok (esigns x) ω1 else .bad
  | [.lst xs] => .ok (numbered xs) ω1
  | [.tup xs] => .ok (numbered xs) ω1
  | _ => .bad
theorem id_enumA {p tpos : Pos} {elts : List Expr} {kk : Nat} (hm : X.mg "enumerate" = none) (h : PAd X W [a] fs) (hg : Gl X "enumerate" := by rfl) (hs : starEach [a] X.env = [(false, eval a X.env)] := by rfl) : PId X W (.Tuple elts kk tpos) (.Call (.Name "enumerate" p) [a] [] pos) (iEnumA fs) := by
  obtain ⟨t, p1, q1⟩ := h.ex
  refine ⟨_, pi_enumT hg hm p1 hs, fun M al σ H δ ω R S h => ?_⟩
  refine q1 M al σ H δ ω _ S (post_mono (fun x H1 h1 => ?_) (post_bind (rel := relA X.K M al) h))
  obtain ⟨d1, ω1, e1, S1, f1, r1, h1⟩ := h1
  split at h1
  · obtain ⟨v, rfl, r⟩ := r1.one
    cases r
    split at h1
    · rename_i hl
      exact .inl ⟨_, rfl, h1 _ _ S1 f1 (itD_enumS hl)⟩
    · exact h1.elim
  · obtain ⟨v, rfl, r⟩ := r1.one
    cases r with
    | lst h n l r => exact .inr (.inl ⟨_, _, rfl, SqL.of h, h1 _ _ S1 f1 (itD_enumL h n l r)⟩)
  · obtain ⟨v, rfl, r⟩ := r1.one
    cases r with
    | tup h l r => exact .inr (.inr ⟨_, _, rfl, h, h1 _ _ S1 f1 (itD_enumT h l r)⟩)
  · exact h1.elim
end
end DL

namespace DL
open PySem PyProof.Rows L2
/-! ### what operators tell of data -/
theorem gEqX_ii (i j : Int) : gEqX (.int i) (.int j) = some (.bl (decide (i = j))) := gEq_ii i j
theorem gEq_ss (x y : Str) : gEq (.str x) (.str y) = some (.bl (decide (x = y))) := by
  show (if scal (.str x) (.str y) = true then some (D.bl (decide (V.str x = V.str y))) else none).or _ = _
  rw [if_pos (show scal (.str x) (.str y) = true from rfl)]
  show some _ = some _
  congr 2
  by_cases h : x = y
  · rw [h]; simp
  · rw [decide_eq_false h, decide_eq_false]
    intro e
    injection e with e
    exact h e
theorem gEqX_ss (x y : Str) : gEqX (.str x) (.str y) = some (.bl (decide (x = y))) := gEq_ss x y
theorem gNe_ii (i j : Int) : gNe (.int i) (.int j) = some (.bl (!decide (i = j))) := by
  show (if scal (.int i) (.int j) = true then some (D.bl (!decide (V.int i = V.int j))) else none).or _ = _
  rw [if_pos (show scal (.int i) (.int j) = true from rfl)]
  show some _ = some _
  congr 3
  by_cases h : i = j
  · rw [h]; simp
  · rw [decide_eq_false h, decide_eq_false]
    intro e
    injection e with e
    exact h e
theorem gNeX_ii (i j : Int) : gNeX (.int i) (.int j) = some (.bl (!decide (i = j))) := gNe_ii i j
theorem gEqX_t0 (ds : List D) : gEqX (.tup ds) (.tup []) = some (.bl ds.isEmpty) := by
  show some (D.bl (false ^^ ds.isEmpty)) = _
  rw [Bool.false_xor]
theorem gNeX_t0 (ds : List D) : gNeX (.tup ds) (.tup []) = some (.bl (!ds.isEmpty)) := by
  show some (D.bl (true ^^ ds.isEmpty)) = _
  rw [Bool.true_xor]
theorem gEqX_l0 (ds : List D) : gEqX (.lst ds) (.lst []) = some (.bl ds.isEmpty) := by
  show some (D.bl (false ^^ ds.isEmpty)) = _
  rw [Bool.false_xor]
theorem gNeX_l0 (ds : List D) : gNeX (.lst ds) (.lst []) = some (.bl (!ds.isEmpty)) := by
  show some (D.bl (true ^^ ds.isEmpty)) = _
  rw [Bool.true_xor]
theorem gEqX_t1 (x y : Str) (ds : List D) : gEqX (.tup (.str x :: ds)) (.tup [.str y]) = some (.bl (decide (x = y) && ds.isEmpty)) := by
  show some (D.bl (false ^^ (eqV (.str x) (.str y) && ds.isEmpty))) = _
  rw [Bool.false_xor]
  have e : eqV (.str x) (.str y) = decide (x = y) := by
    show (x == y) = _
    by_cases h : x = y <;> simp [h]
  rw [e]
theorem gIx_t0 (d : D) (ds : List D) : gIx (.tup (d :: ds)) (.int 0) = some d := by
  show (none : Option D).or ((atI (d :: ds) 0).or none) = _
  rw [atI_ok (by decide) (by simp)]
  rfl
theorem gIx_t1 (d e : D) (ds : List D) : gIx (.tup (d :: e :: ds)) (.int 1) = some e := by
  show (none : Option D).or ((atI (d :: e :: ds) 1).or none) = _
  rw [atI_ok (by decide) (by simp only [List.length_cons]; omega)]
  rfl
theorem gIx_t2 (d e f : D) (ds : List D) : gIx (.tup (d :: e :: f :: ds)) (.int 2) = some f := by
  show (none : Option D).or ((atI (d :: e :: f :: ds) 2).or none) = _
  rw [atI_ok (by decide) (by simp only [List.length_cons]; omega)]
  rfl
theorem gIx_tn {ds : List D} {k : Nat} {d : D} (h : ds[k]? = some d) : gIx (.tup ds) (.int (k : Nat)) = some d := by
  have hk : k < ds.length := (List.getElem?_eq_some_iff.mp h).1
  show (none : Option D).or ((atI ds (k : Nat)).or none) = _
  rw [atI_ok (by omega) (by omega), Int.toNat_natCast, h]
  rfl
theorem gIx_ln {ds : List D} {k : Nat} {d : D} (h : ds[k]? = some d) : gIx (.lst ds) (.int (k : Nat)) = some d := by
  have hk : k < ds.length := (List.getElem?_eq_some_iff.mp h).1
  show (atI ds (k : Nat)).or _ = _
  rw [atI_ok (by omega) (by omega), Int.toNat_natCast, h]
  rfl
theorem gIx_l0 (d : D) (ds : List D) : gIx (.lst (d :: ds)) (.int 0) = some d := gIx_ln (k := 0) rfl
theorem gIx_l1 (d e : D) (ds : List D) : gIx (.lst (d :: e :: ds)) (.int 1) = some e := gIx_ln (k := 1) rfl
theorem gIx_l2 (d e f : D) (ds : List D) : gIx (.lst (d :: e :: f :: ds)) (.int 2) = some f := gIx_ln (k := 2) rfl
/-- the last one -/
theorem gIx_llast (ds : List D) (d : D) : gIx (.lst (ds ++ [d])) (.int (-1)) = some d := by
  show (atI (ds ++ [d]) (-1)).or _ = _
  have e : atI (ds ++ [d]) (-1) = some d := by
    unfold atI ixN
    rw [List.length_append, List.length_singleton]
    rw [if_neg (by decide), if_pos (by omega), show (-1 + ((ds.length + 1 : Nat) : Int)).toNat = ds.length by omega]
    simp
  rw [e]
  rfl
theorem gLen_t (ds : List D) : gLen [.tup ds] = some (.int (ds.length : Nat)) := rfl
theorem gLen_l (ds : List D) : gLen [.lst ds] = some (.int (ds.length : Nat)) := rfl
theorem cutD_from (ds : List D) (k : Nat) : cutD ds (some (k : Int)) none = ds.drop k := by
  unfold cutD
  rw [HT.sIx_none, HT.sIx_nat]
  by_cases h : k ≤ ds.length
  · rw [Nat.min_eq_left h, List.take_of_length_le (by rw [List.length_drop]; omega)]
  · rw [Nat.min_eq_right (by omega), Nat.sub_self, List.take_zero, List.drop_eq_nil_of_le (by omega)]
theorem cutD_to (ds : List D) (k : Nat) : cutD ds none (some (k : Int)) = ds.take k := by
  unfold cutD
  rw [HT.sIx_none, HT.sIx_nat, List.drop_zero, Nat.sub_zero]
  by_cases h : k ≤ ds.length
  · rw [Nat.min_eq_left h]
  · rw [Nat.min_eq_right (by omega), List.take_length, List.take_of_length_le (by omega)]
theorem cutD_mid (ds : List D) (a b : Nat) (h : a ≤ b) : cutD ds (some (a : Int)) (some (b : Int)) = (ds.drop a).take (b - a) := by
  unfold cutD
  rw [HT.sIx_nat, HT.sIx_nat]
  by_cases h1 : a ≤ ds.length
  · rw [Nat.min_eq_left h1]
    by_cases h2 : b ≤ ds.length
    · rw [Nat.min_eq_left h2]
    · rw [Nat.min_eq_right (by omega), List.take_of_length_le (by rw [List.length_drop]; omega), List.take_of_length_le (by rw [List.length_drop]; omega)]
  · rw [Nat.min_eq_right (by omega : ds.length ≤ a), List.drop_eq_nil_of_le (by omega), List.drop_eq_nil_of_le (by omega)]
    simp
theorem gSl_t (ds : List D) (lo hi : Option Int) : gSl (.tup ds) lo hi = some (.tup (cutD ds lo hi)) := rfl
theorem gSl_l (ds : List D) (lo hi : Option Int) : gSl (.lst ds) lo hi = some (.lst (cutD ds lo hi)) := rfl
theorem gSl_t1 (d : D) (ds : List D) : gSl (.tup (d :: ds)) (some 1) none = some (.tup ds) := by
  rw [gSl_t, show (1 : Int) = ((1 : Nat) : Int) from rfl, cutD_from]
  rfl
theorem gAdd_T {a b : List D} (h : a.length + b.length ≤ sizeLine) : gAdd (.tup a) (.tup b) = some (.tup (a ++ b)) := by
  show (none : Option D).or ((none : Option D).or ((none : Option D).or (if a.length + b.length ≤ sizeLine then some (.tup (a ++ b)) else none))) = _
  rw [if_pos h]
  rfl
theorem gAdd_ss {x y : Str} (h : x.length + y.length ≤ sizeLine) : gAdd (.str x) (.str y) = some (.str (x ++ y)) := by
  show (none : Option D).or ((if x.length + y.length ≤ sizeLine then some (D.str (x ++ y)) else none).or _) = _
  rw [if_pos h]
  rfl
theorem gTup_ok {a : List D} (h : a.length ≤ sizeLine) : gTup a = some (.tup a) := if_pos h
theorem szl : sizeLine = 16777216 := rfl
theorem gGt_nat (a b : Nat) : gGt (.int (a : Nat)) (.int (b : Nat)) = some (.bl (decide (b < a))) := by
  show some (D.bl (decide (((b : Nat) : Int) < ((a : Nat) : Int)))) = _
  congr 2
  exact decide_eq_decide.mpr Int.ofNat_lt
theorem gLt_nat (a b : Nat) : gLt (.int (a : Nat)) (.int (b : Nat)) = some (.bl (decide (a < b))) := by
  show some (D.bl (decide (((a : Nat) : Int) < ((b : Nat) : Int)))) = _
  congr 2
  exact decide_eq_decide.mpr Int.ofNat_lt
theorem gGe_nat (a b : Nat) : gGe (.int (a : Nat)) (.int (b : Nat)) = some (.bl (decide (b ≤ a))) := by
  show some (D.bl (decide (((b : Nat) : Int) ≤ ((a : Nat) : Int)))) = _
  congr 2
  exact decide_eq_decide.mpr Int.ofNat_le
theorem gLeA_nat (a b : Nat) : gLeA (.int (a : Nat)) (.int (b : Nat)) = some (.bl (decide (a ≤ b))) := by
  show some (D.bl (decide (((a : Nat) : Int) ≤ ((b : Nat) : Int)))) = _
  congr 2
  exact decide_eq_decide.mpr Int.ofNat_le
theorem gEqX_nat (a b : Nat) : gEqX (.int (a : Nat)) (.int (b : Nat)) = some (.bl (decide (a = b))) := by
  rw [gEqX_ii]
  congr 2
  exact decide_eq_decide.mpr Int.ofNat_inj
theorem gNeX_nat (a b : Nat) : gNeX (.int (a : Nat)) (.int (b : Nat)) = some (.bl (!decide (a = b))) := by
  rw [gNeX_ii]
  congr 3
  exact decide_eq_decide.mpr Int.ofNat_inj
theorem gAdd_nat (a b : Nat) : gAdd (.int (a : Nat)) (.int (b : Nat)) = some (.int ((a + b : Nat) : Int)) := by
  rw [gAdd_i]
  rfl
theorem gSub_nat (a b : Nat) (h : b ≤ a) : gSub (.int (a : Nat)) (.int (b : Nat)) = some (.int ((a - b : Nat) : Int)) := by
  show some (D.int (((a : Nat) : Int) - ((b : Nat) : Int))) = _
  rw [Int.ofNat_sub h]
theorem scals_strs : ∀ zs : List Str, scalsD (zs.map .str) = some (zs.map V.str)
  | [] => rfl
  | z :: r => by
    rw [List.map_cons]
    unfold scalsD
    rw [scals_strs r]
    rfl
theorem inV_strs (a : Str) : ∀ zs : List Str, inV (.str a) (zs.map V.str) = decide (a ∈ zs)
  | [] => by simp [inV]
  | z :: r => by
    have ih := inV_strs a r
    unfold inV at ih ⊢
    rw [List.map_cons, List.any_cons, ih]
    have e : eqV (.str z) (.str a) = decide (a = z) := by
      show (z == a) = _
      by_cases h : a = z
      · simp [h]
      · have h2 : ¬ z = a := fun q => h q.symm
        simp [h, h2]
    rw [e]
    by_cases h : a = z <;> simp [h]
/-- a text among texts -/
theorem gInV_ts (neg : Bool) (a : Str) (zs : List Str) : gInV neg (.str a) (.tup (zs.map .str)) = some (.bl (neg ^^ decide (a ∈ zs))) := by
  show (match dScal (.str a), scalsD (zs.map .str) with
    | some x, some xs => some (D.bl (if neg then !inV x xs else inV x xs))
    | _, _ => none) = _
  rw [scals_strs]
  show some (D.bl (if neg then !inV (.str a) (zs.map V.str) else inV (.str a) (zs.map V.str))) = _
  rw [inV_strs]
  cases neg <;> simp
theorem gInV_ls (neg : Bool) (a : Str) (zs : List Str) : gInV neg (.str a) (.lst (zs.map .str)) = some (.bl (neg ^^ decide (a ∈ zs))) := gInV_ts neg a zs
theorem log2_lt {n : Nat} (h : n < 10 ^ 10) : n.log2 < 1920 := by
  by_cases h0 : n = 0
  · subst h0
    decide
  · have h1 := Nat.log2_lt (n := n) (k := 40) h0
    have : n.log2 < 40 := h1.mpr (by omega)
    omega
theorem gStr_nat {n : Nat} (h : n < 10 ^ 10) : gStrI [.int (n : Nat)] = some (.str (SX.S (TL.numL n))) := by
  show (if ((n : Nat) : Int).natAbs.log2 < 1920 then some (D.str (Str.ofString (toString ((n : Nat) : Int)))) else none) = _
  rw [if_pos (by rw [Int.natAbs_natCast]; exact log2_lt h), SX.num_S]
/-! ### runs of parts -/
theorem runB_eq {n : Nat} {g : EvS} {ds : List D} {ω ω' : Om} {d : D} (h : g (ds.map .val ++ List.replicate (n - ds.length) .emp) ω = .ok (.rt d) ω') : runB n g ds ω = .ok d ω' := by
  unfold runB
  rw [h]
  rfl
theorem runB_nx {n : Nat} {g : EvS} {ds : List D} {ω ω' : Om} {δ : Sls} (h : g (ds.map .val ++ List.replicate (n - ds.length) .emp) ω = .ok (.nx δ) ω') : runB n g ds ω = .ok .non ω' := by
  unfold runB
  rw [h]
  rfl
theorem runB_err {n : Nat} {g : EvS} {ds : List D} {ω ω' : Om} {x : Ex} (h : g (ds.map .val ++ List.replicate (n - ds.length) .emp) ω = .err x ω') : runB n g ds ω = .err x ω' := by
  unfold runB
  rw [h]
  rfl
theorem sSeq_rt {a b : EvS} {δ : Sls} {ω ω1 : Om} {d : D} (h : a δ ω = .ok (.rt d) ω1) : sSeq a b δ ω = .ok (.rt d) ω1 := by
  unfold sSeq
  rw [h]
  rfl
theorem sSeq_err {a b : EvS} {δ : Sls} {ω ω1 : Om} {x : Ex} (h : a δ ω = .err x ω1) : sSeq a b δ ω = .err x ω1 := by
  unfold sSeq
  rw [h]
  rfl
theorem sIf_t {c : EvT} {a b : EvS} {δ : Sls} {ω ω1 : Om} (h : c δ ω = .ok true ω1) : sIf c a b δ ω = a δ ω1 := by
  unfold sIf
  rw [h]
  rfl
theorem sIf_f {c : EvT} {a b : EvS} {δ : Sls} {ω ω1 : Om} (h : c δ ω = .ok false ω1) : sIf c a b δ ω = b δ ω1 := by
  unfold sIf
  rw [h]
  rfl
theorem sRet_run {fe : EvE} {δ : Sls} {ω ω1 : Om} {d : D} (h : fe δ ω = .ok d ω1) : sRet fe δ ω = .ok (.rt d) ω1 := by
  unfold sRet
  rw [h]
  rfl
theorem loopF_rt {g : EvG} {body : EvS} {d : D} {ds : List D} {δ δ1 : Sls} {ω ω2 : Om} {r : D} (hg : g d δ ω = some δ1) (hb : body δ1 ω = .ok (.rt r) ω2) : loopF g body (d :: ds) δ ω = .ok (.rt r) ω2 := by
  show (match g d δ ω with
    | none => (Rs.bad : Rs Fl)
    | some δ1 => (body δ1 ω).bind fun fl ω2 => match fl with
      | .nx δ2 => loopF g body ds δ2 ω2
      | .ct δ2 => loopF g body ds δ2 ω2
      | .bk δ2 => .ok (.nx δ2) ω2
      | .rt d => .ok (.rt d) ω2) = _
  rw [hg]
  dsimp only
  rw [hb]
  rfl
theorem loopF_ct {g : EvG} {body : EvS} {d : D} {ds : List D} {δ δ1 δ2 : Sls} {ω ω2 : Om} (hg : g d δ ω = some δ1) (hb : body δ1 ω = .ok (.ct δ2) ω2) : loopF g body (d :: ds) δ ω = loopF g body ds δ2 ω2 := by
  show (match g d δ ω with
    | none => (Rs.bad : Rs Fl)
    | some δ1 => (body δ1 ω).bind fun fl ω2 => match fl with
      | .nx δ2 => loopF g body ds δ2 ω2
      | .ct δ2 => loopF g body ds δ2 ω2
      | .bk δ2 => .ok (.nx δ2) ω2
      | .rt d => .ok (.rt d) ω2) = _
  rw [hg]
  dsimp only
  rw [hb]
  rfl
/-- a comprehension with a test, over a mapped list -/
theorem compF_filter {α : Type} {g : EvG} {ft : EvT} {fe : EvE} {δ : Sls} {ω : Om} (u v : α → D) (b : α → Bool) : ∀ l : List α, (∀ c, c ∈ l → ∃ δ1, g (u c) δ ω = some δ1 ∧ ft δ1 ω = .ok (b c) ω ∧ (b c = true → fe δ1 ω = .ok (v c) ω)) → compF g ft fe δ (l.map u) ω = .ok ((l.filter b).map v) ω
  | [], _ => rfl
  | c :: r, h => by
    obtain ⟨δ1, h1, h2, h3⟩ := h c (by simp)
    have ih := compF_filter u v b r fun x hx => h x (by simp [hx])
    rw [List.map_cons]
    unfold compF
    rw [h1]
    dsimp only
    rw [h2, Rs.bind_ok]
    cases hb : b c with
    | true => rw [if_pos rfl, h3 hb, Rs.bind_ok, ih, Rs.bind_ok, List.filter_cons_of_pos hb, List.map_cons]
    | false => rw [if_neg (by decide), ih, List.filter_cons_of_neg (by rw [hb]; decide)]
theorem eComp_run {f : EvI} {g : EvG} {ft : EvT} {fe : EvE} {vs : List Nat} {δ : Sls} {ω ω1 ω2 : Om} {ds ys : List D} (h1 : f δ ω = .ok ds ω1) (h2 : compF g ft fe (wipeD δ vs) ds ω1 = .ok ys ω2) : eComp f g ft fe vs δ ω = .ok (.lst ys) ω2 := by
  unfold eComp
  rw [h1, Rs.bind_ok, h2]
  rfl
theorem iAny_t {fa : EvE} {δ : Sls} {ω ω1 : Om} {ds : List D} (h : fa δ ω = .ok (.tup ds) ω1) : iAny fa δ ω = .ok ds ω1 := by
  unfold iAny
  rw [h]
  rfl
theorem iAny_l {fa : EvE} {δ : Sls} {ω ω1 : Om} {ds : List D} (h : fa δ ω = .ok (.lst ds) ω1) : iAny fa δ ω = .ok ds ω1 := by
  unfold iAny
  rw [h]
  rfl
theorem iAny_s {fa : EvE} {δ : Sls} {ω ω1 : Om} {x : Str} (h : fa δ ω = .ok (.str x) ω1) (hl : x.length ≤ sizeLine) : iAny fa δ ω = .ok (signs x) ω1 := by
  unfold iAny
  rw [h, Rs.bind_ok, show itemsD (.str x) = some (signs x) from if_pos hl]
theorem aCons_run {fa : EvE} {fs : EvA} {δ : Sls} {ω ω1 ω2 : Om} {d : D} {ds : List D} (h1 : fa δ ω = .ok d ω1) (h2 : fs δ ω1 = .ok ds ω2) : aCons fa fs δ ω = .ok (d :: ds) ω2 := by
  unfold aCons
  rw [h1, Rs.bind_ok, h2]
  rfl
theorem sPar2_run {i j : Nat} {fs : EvA} {δ : Sls} {ω ω1 : Om} {d1 d2 : D} (h : fs δ ω = .ok [d1, d2] ω1) : sPar2 i j fs δ ω = .ok (.nx ((δ.set i (.val d1)).set j (.val d2))) ω1 := by
  unfold sPar2
  rw [h]
  rfl
theorem eCall_run {fn : List D → Om → Rs D} {fs : EvA} {δ : Sls} {ω ω1 : Om} {ds : List D} (h : fs δ ω = .ok ds ω1) : eCall fn fs δ ω = fn ds ω1 := by
  unfold eCall
  rw [h]
  rfl
/-! ### draws in slots -/
section
variable {δ : Sls} {ω : Om} {b : Int}
/-- a draw below a number that stands there -/
theorem eDraw {fe : EvE} {n : Nat} (hs : δ[0]? = some (.val .st)) (he : fe δ ω = .ok (.int (n : Nat)) ω) (h : Tb b ω) (hb : b < 2 ^ 40) (h0 : 0 < n) (h1 : n < 2 ^ 30) : ∃ k : Nat, ∃ ω', eCall drawF (aCons (eVar 0) (aCons fe aNil)) δ ω = .ok (.int (k : Nat)) ω' ∧ k < n ∧ Tb (b + 1) ω' := by
  obtain ⟨k, ω', q1, q2, q3⟩ := draw_step (n := (n : Nat)) h hb (by omega) (by omega)
  refine ⟨k, ω', ?_, by omega, q3⟩
  unfold eCall aCons aNil eVar
  rw [hs]
  dsimp only
  rw [Rs.bind_ok, he]
  exact q1
theorem eDrawC (n : Nat) (hs : δ[0]? = some (.val .st)) (h : Tb b ω) (hb : b < 2 ^ 40) (h0 : 0 < n) (h1 : n < 2 ^ 30) : ∃ k : Nat, ∃ ω', eCall drawF (aCons (eVar 0) (aCons (eC (.int (n : Nat))) aNil)) δ ω = .ok (.int (k : Nat)) ω' ∧ k < n ∧ Tb (b + 1) ω' := eDraw hs rfl h hb h0 h1
/-- the same, the source in another slot -/
theorem eDrawI (i n : Nat) (hs : δ[i]? = some (.val .st)) (h : Tb b ω) (hb : b < 2 ^ 40) (h0 : 0 < n) (h1 : n < 2 ^ 30) : ∃ k : Nat, ∃ ω', eCall drawF (aCons (eVar i) (aCons (eC (.int (n : Nat))) aNil)) δ ω = .ok (.int (k : Nat)) ω' ∧ k < n ∧ Tb (b + 1) ω' := by
  obtain ⟨k, ω', q1, q2, q3⟩ := draw_step (n := (n : Nat)) h hb (by omega) (by omega)
  refine ⟨k, ω', ?_, by omega, q3⟩
  unfold eCall aCons aNil eVar
  rw [hs]
  dsimp only
  exact q1
theorem ePick {i : Nat} {fe : EvE} {d : D} {xs : List D} (hs : δ[i]? = some (.val .st)) (he : fe δ ω = .ok d ω) (hc : choices d = some xs) (h : Tb b ω) (hb : b < 2 ^ 40) (h0 : 0 < xs.length) (h1 : xs.length < 2 ^ 24) : ∃ y, ∃ ω', eCall pickF (aCons (eVar i) (aCons fe aNil)) δ ω = .ok y ω' ∧ y ∈ xs ∧ Tb (b + 1) ω' := by
  obtain ⟨y, ω', q1, q2, q3⟩ := pick_step hc h hb h0 h1
  refine ⟨y, ω', ?_, q2, q3⟩
  unfold eCall aCons aNil eVar
  rw [hs]
  dsimp only
  rw [Rs.bind_ok, he]
  exact q1
end
/-! ### data of texts, numbers, None, and tuples and lists of them: == is equality -/
mutual
def solid : PyData → Bool
  | .none => true
  | .int _ => true
  | .str _ => true
  | .list xs => solidAll xs
  | .tuple xs => solidAll xs
  | _ => false
def solidAll : List PyData → Bool
  | [] => true
  | x :: xs => solid x && solidAll xs
end
mutual
theorem eqv_eq : ∀ {p q : PyData}, solid p = true → solid q = true → PyData.eqv p q = true → p = q
  | .none, .none, _, _, _ => rfl
  | .int i, .int j, _, _, h => by
    have : i = j := by simpa [PyData.eqv] using h
    rw [this]
  | .str x, .str y, _, _, h => by
    have : x = y := by simpa [PyData.eqv] using h
    rw [this]
  | .list xs, .list ys, h1, h2, h => by
    rw [solid] at h1 h2
    rw [PyData.eqv] at h
    rw [eqvAll_eq h1 h2 h]
  | .tuple xs, .tuple ys, h1, h2, h => by
    rw [solid] at h1 h2
    rw [PyData.eqv] at h
    rw [eqvAll_eq h1 h2 h]
  | .none, .int _, _, _, h | .none, .str _, _, _, h | .none, .list _, _, _, h | .none, .tuple _, _, _, h => by simp [PyData.eqv] at h
  | .int _, .none, _, _, h | .int _, .str _, _, _, h | .int _, .list _, _, _, h | .int _, .tuple _, _, _, h => by simp [PyData.eqv] at h
  | .str _, .none, _, _, h | .str _, .int _, _, _, h | .str _, .list _, _, _, h | .str _, .tuple _, _, _, h => by simp [PyData.eqv] at h
  | .list _, .none, _, _, h | .list _, .int _, _, _, h | .list _, .str _, _, _, h | .list _, .tuple _, _, _, h => by simp [PyData.eqv] at h
  | .tuple _, .none, _, _, h | .tuple _, .int _, _, _, h | .tuple _, .str _, _, _, h | .tuple _, .list _, _, _, h => by simp [PyData.eqv] at h
  | .bool _, _, h1, _, _ | .dict _, _, h1, _, _ => by simp [solid] at h1
  | _, .bool _, _, h2, _ | _, .dict _, _, h2, _ => by simp [solid] at h2
theorem eqvAll_eq : ∀ {xs ys : List PyData}, solidAll xs = true → solidAll ys = true → PyData.eqvAll xs ys = true → xs = ys
  | [], [], _, _, _ => rfl
  | x :: xs, y :: ys, h1, h2, h => by
    rw [solidAll, Bool.and_eq_true] at h1 h2
    rw [PyData.eqvAll, Bool.and_eq_true] at h
    rw [eqv_eq h1.1 h2.1 h.1, eqvAll_eq h1.2 h2.2 h.2]
  | [], _ :: _, _, _, h => by simp [PyData.eqvAll] at h
  | _ :: _, [], _, _, h => by simp [PyData.eqvAll] at h
end
/-- what is laid as data, and == tells it -/
structure Emb {α : Type} [DecidableEq α] (u : α → D) (P : α → Prop) where
  v : α → PyData
  py : ∀ a, toPy (u a) = some (v a)
  lay : ∀ a, P a → (v a).canLay0 = true
  dep : ∀ a, P a → (v a).depth ≤ 64
  eqv : ∀ a b, P a → P b → PyData.eqv (v a) (v b) = decide (a = b)
section
variable {α : Type} [DecidableEq α] {u : α → D} {P : α → Prop} (E : Emb u P)
include E
theorem Emb.shaped {a : α} (h : P a) : SeqAt.shaped (E.v a) = true := by
  unfold SeqAt.shaped
  rw [E.lay a h, decide_eq_true (E.dep a h)]
  rfl
theorem Emb.pyL : ∀ l : List α, toPy.toPyL (l.map u) = some (l.map E.v) := toPyL_map u E.v E.py
theorem Emb.layL : ∀ l : List α, (∀ a ∈ l, P a) → PyData.canLayAll0 (l.map E.v) = true
  | [], _ => rfl
  | a :: r, h => by
    rw [List.map_cons]
    unfold PyData.canLayAll0
    rw [E.lay a (h a (by simp)), Emb.layL r fun x hx => h x (by simp [hx])]
    rfl
theorem Emb.any {a : α} : ∀ {l : List α}, P a → (∀ x ∈ l, P x) → ((l.map E.v).any fun z => PyData.eqv z (E.v a)) = decide (a ∈ l)
  | [], _, _ => by simp
  | b :: r, h, hl => by
    rw [List.map_cons, List.any_cons, E.eqv b a (hl b (by simp)) h, Emb.any h fun x hx => hl x (by simp [hx])]
    by_cases e : a = b
    · simp [e]
    · have e2 : ¬ b = a := fun z => e z.symm
      simp [e, e2]
theorem Emb.inT {neg : Bool} {a : α} {l : List α} (h : P a) (hl : ∀ x ∈ l, P x) : gInA neg (u a) (.tup (l.map u)) = some (.bl (neg ^^ decide (a ∈ l))) := by
  show (match toPy (u a), toPy.toPyL (l.map u) with
    | some d, some ds => if SeqAt.shaped d = true ∧ PyData.canLayAll0 ds = true then some (D.bl (neg ^^ ds.any fun z => PyData.eqv z d)) else none
    | _, _ => none) = _
  rw [E.py, E.pyL]
  dsimp only
  rw [if_pos ⟨E.shaped h, E.layL l hl⟩, E.any h hl]
theorem Emb.find {y : α} : ∀ {l : List α}, P y → (∀ x ∈ l, P x) → y ∈ l → ∃ j, (l.map E.v).findIdx? (fun z => PyData.eqv z (E.v y)) = some j ∧ (l.map u).eraseIdx j = (l.erase y).map u
  | [], _, _, h => nomatch h
  | a :: r, hy, hl, h => by
    have e := E.eqv a y (hl a (by simp)) hy
    rw [List.map_cons, List.map_cons, List.findIdx?_cons, e]
    by_cases q : a = y
    · subst q
      refine ⟨0, by simp, ?_⟩
      rw [List.eraseIdx_cons_zero, List.erase_cons_head]
    · have hr : y ∈ r := by
        rcases List.mem_cons.mp h with z | z
        · exact absurd z.symm q
        · exact z
      obtain ⟨j, h1, h2⟩ := Emb.find hy (fun x hx => hl x (by simp [hx])) hr
      refine ⟨j + 1, by simp [q, h1], ?_⟩
      rw [List.eraseIdx_cons_succ, h2, List.erase_cons_tail (by simpa using q), List.map_cons]
theorem Emb.rem {y : α} {l : List α} {i : Nat} {fa : EvE} {δ : Sls} {ω ω1 : Om} (hi : δ[i]? = some (.own (l.map u))) (ha : fa δ ω = .ok (u y) ω1) (hy : P y) (hl : ∀ x ∈ l, P x) (h : y ∈ l) : sRem i fa δ ω = .ok (.nx (δ.set i (.own ((l.erase y).map u)))) ω1 := by
  obtain ⟨j, h1, h2⟩ := E.find hy hl h
  unfold sRem
  rw [hi]
  dsimp only
  rw [ha, Rs.bind_ok, E.py, E.pyL]
  dsimp only
  rw [if_pos ⟨E.shaped hy, E.layL l hl⟩, h1]
  dsimp only
  rw [h2]
theorem Emb.inL {neg : Bool} {a : α} {l : List α} (h : P a) (hl : ∀ x ∈ l, P x) : gInA neg (u a) (.lst (l.map u)) = some (.bl (neg ^^ decide (a ∈ l))) := E.inT h hl
end
end DL

namespace K24
open PySem PySem.Spec PyProof.Rows L2 LamX DL
/-! ### the text -/
def top (i : Nat) : Stmt := PySem.Challenge.pw_sureleaves_k24_demands.main.body.getD i (.Pass ⟨0, 0, 0, 0⟩)
abbrev t_is_name : Stmt := top 7
theorem sc_is_name : FnScope ["value", "sign"] ["value"] (defScope t_is_name) := ⟨rfl, rfl, rfl, by decide +kernel, rfl, by decide +kernel, by decide +kernel⟩
abbrev t_is_tuple_of : Stmt := top 8
theorem sc_is_tuple_of : FnScope ["value", "size"] ["value", "size"] (defScope t_is_tuple_of) := ⟨rfl, rfl, rfl, by decide +kernel, rfl, by decide +kernel, by decide +kernel⟩
abbrev t_is_headed : Stmt := top 9
theorem sc_is_headed : FnScope ["value"] ["value"] (defScope t_is_headed) := ⟨rfl, rfl, rfl, by decide +kernel, rfl, by decide +kernel, by decide +kernel⟩
abbrev t_is_alone : Stmt := top 16
theorem sc_is_alone : FnScope ["value"] ["value"] (defScope t_is_alone) := ⟨rfl, rfl, rfl, by decide +kernel, rfl, by decide +kernel, by decide +kernel⟩
abbrev t_is_named : Stmt := top 17
theorem sc_is_named : FnScope ["value"] ["value"] (defScope t_is_named) := ⟨rfl, rfl, rfl, by decide +kernel, rfl, by decide +kernel, by decide +kernel⟩
abbrev t_path_nodes : Stmt := top 18
theorem sc_path_nodes : FnScope ["value", "deep", "found", "step"] ["value", "deep"] (defScope t_path_nodes) := ⟨rfl, rfl, rfl, by decide +kernel, rfl, by decide +kernel, by decide +kernel⟩
abbrev t_filter_nodes : Stmt := top 19
theorem sc_filter_nodes : FnScope ["value", "deep", "many", "part"] ["value", "deep"] (defScope t_filter_nodes) := ⟨rfl, rfl, rfl, by decide +kernel, rfl, by decide +kernel, by decide +kernel⟩
abbrev t_is_filter : Stmt := top 20
theorem sc_is_filter : FnScope ["value"] ["value"] (defScope t_is_filter) := ⟨rfl, rfl, rfl, by decide +kernel, rfl, by decide +kernel, by decide +kernel⟩
abbrev t_needs_at : Stmt := top 23
theorem sc_needs_at : FnScope ["one"] ["one"] (defScope t_needs_at) := ⟨rfl, rfl, rfl, by decide +kernel, rfl, by decide +kernel, by decide +kernel⟩
abbrev t_needs_of : Stmt := top 24
theorem sc_needs_of : FnScope ["one"] ["one"] (defScope t_needs_of) := ⟨rfl, rfl, rfl, by decide +kernel, rfl, by decide +kernel, by decide +kernel⟩
abbrev t_gathered : Stmt := top 25
theorem sc_gathered : FnScope ["one", "found", "need"] ["one", "found"] (defScope t_gathered) := ⟨rfl, rfl, rfl, by decide +kernel, rfl, by decide +kernel, by decide +kernel⟩
abbrev t_are_filters : Stmt := top 26
theorem sc_are_filters : FnScope ["value", "one"] ["value"] (defScope t_are_filters) := ⟨rfl, rfl, rfl, by decide +kernel, rfl, by decide +kernel, by decide +kernel⟩
abbrev t_demands_of : Stmt := top 27
theorem sc_demands_of : FnScope ["filters", "found", "one"] ["filters"] (defScope t_demands_of) := ⟨rfl, rfl, rfl, by decide +kernel, rfl, by decide +kernel, by decide +kernel⟩
abbrev t_is_demands : Stmt := top 28
theorem sc_is_demands : FnScope ["value", "one", "number", "ahead", "need"] ["value"] (defScope t_is_demands) := ⟨rfl, rfl, rfl, by decide +kernel, rfl, by decide +kernel, by decide +kernel⟩
abbrev t_w_begun : Stmt := top 30
abbrev t_w_blended : Stmt := top 31
theorem sc_w_blended : FnScope ["state", "turn", "found", "prime", "blend", "cell"] ["state"] (defScope t_w_blended) := ⟨rfl, rfl, rfl, by decide +kernel, rfl, by decide +kernel, by decide +kernel⟩
abbrev t_w_draw : Stmt := top 32
theorem sc_w_draw : FnScope ["state", "size_here", "found"] ["state", "size_here"] (defScope t_w_draw) := ⟨rfl, rfl, rfl, by decide +kernel, rfl, by decide +kernel, by decide +kernel⟩
abbrev t_w_pick : Stmt := top 33
theorem sc_w_pick : FnScope ["state", "several"] ["state", "several"] (defScope t_w_pick) := ⟨rfl, rfl, rfl, by decide +kernel, rfl, by decide +kernel, by decide +kernel⟩
abbrev t_w_caught : Stmt := top 34
abbrev t_w_is_truth : Stmt := top 35
theorem sc_w_is_truth : FnScope ["found", "due"] ["found", "due"] (defScope t_w_is_truth) := ⟨rfl, rfl, rfl, by decide +kernel, rfl, by decide +kernel, by decide +kernel⟩
abbrev t_w_is_whole : Stmt := top 36
theorem sc_w_is_whole : FnScope ["item"] ["item"] (defScope t_w_is_whole) := ⟨rfl, rfl, rfl, by decide +kernel, rfl, by decide +kernel, by decide +kernel⟩
abbrev t_w_odd : Stmt := top 38
theorem sc_w_odd : FnScope ["state"] ["state"] (defScope t_w_odd) := ⟨rfl, rfl, rfl, by decide +kernel, rfl, by decide +kernel, by decide +kernel⟩
abbrev t_w_bent : Stmt := top 37
theorem sc_w_bent : FnScope ["state", "item", "at", "way"] ["state", "item"] (defScope t_w_bent) := ⟨rfl, rfl, rfl, by decide +kernel, rfl, by decide +kernel, by decide +kernel⟩
abbrev t_w_tr_path : Stmt := top 40
theorem sc_w_tr_path : FnScope ["state", "deep", "axes", "found", "turn"] ["state", "deep"] (defScope t_w_tr_path) := ⟨rfl, rfl, rfl, by decide +kernel, rfl, by decide +kernel, by decide +kernel⟩
abbrev t_w_tr_filter : Stmt := top 39
theorem sc_w_tr_filter : FnScope ["state", "deep", "way"] ["state", "deep"] (defScope t_w_tr_filter) := ⟨rfl, rfl, rfl, by decide +kernel, rfl, by decide +kernel, by decide +kernel⟩
abbrev t_w_fp_same : Stmt := top 41
theorem sc_w_fp_same : FnScope ["found", "due", "one", "other"] ["found", "due"] (defScope t_w_fp_same) := ⟨rfl, rfl, rfl, by decide +kernel, rfl, by decide +kernel, by decide +kernel⟩
abbrev t_w_fp_needs : Stmt := top 42
theorem sc_w_fp_needs : FnScope ["one"] ["one"] (defScope t_w_fp_needs) := ⟨rfl, rfl, rfl, by decide +kernel, rfl, by decide +kernel, by decide +kernel⟩
abbrev t_w_fp_demands : Stmt := top 43
theorem sc_w_fp_demands : FnScope ["filters", "found", "one", "todo", "here", "is_open", "need"] ["filters"] (defScope t_w_fp_demands) := ⟨rfl, rfl, rfl, by decide +kernel, rfl, by decide +kernel, by decide +kernel⟩
abbrev t_w_k24_is_name : Stmt := top 44
theorem sc_w_k24_is_name : FnScope ["value", "sign"] ["value"] (defScope t_w_k24_is_name) := ⟨rfl, rfl, rfl, by decide +kernel, rfl, by decide +kernel, by decide +kernel⟩
abbrev t_w_k24_steps : Stmt := top 45
theorem sc_w_k24_steps : FnScope ["value", "deep", "found", "step"] ["value", "deep"] (defScope t_w_k24_steps) := ⟨rfl, rfl, rfl, by decide +kernel, rfl, by decide +kernel, by decide +kernel⟩
abbrev t_w_k24_nodes : Stmt := top 46
theorem sc_w_k24_nodes : FnScope ["value", "deep", "many", "part"] ["value", "deep"] (defScope t_w_k24_nodes) := ⟨rfl, rfl, rfl, by decide +kernel, rfl, by decide +kernel, by decide +kernel⟩
abbrev t_w_k24_is : Stmt := top 47
theorem sc_w_k24_is : FnScope ["value", "one", "ahead", "need"] ["value"] (defScope t_w_k24_is) := ⟨rfl, rfl, rfl, by decide +kernel, rfl, by decide +kernel, by decide +kernel⟩
abbrev t_w_k24_great : Stmt := top 48
theorem sc_w_k24_great : FnScope ["state", "turn", "one", "lap", "rows", "axis", "steps", "at"] ["state", "turn"] (defScope t_w_k24_great) := ⟨rfl, rfl, rfl, by decide +kernel, rfl, by decide +kernel, by decide +kernel⟩
abbrev t_w_k24_exchanged : Stmt := top 49
theorem sc_w_k24_exchanged : FnScope ["state", "demands", "left", "found", "turn", "free", "one", "need"] ["state", "demands"] (defScope t_w_k24_exchanged) := ⟨rfl, rfl, rfl, by decide +kernel, rfl, by decide +kernel, by decide +kernel⟩
abbrev t_law : Stmt := top 50
theorem sc_law : FnScope ["script", "state", "is_great", "filters", "turn", "one", "demands", "bent", "labels", "at", "odd"] ["script"] (defScope t_law) := ⟨rfl, rfl, rfl, by decide +kernel, rfl, by decide +kernel, by decide +kernel⟩
def TT (K : PySem.W.Frag) : List (Addr × Str) := [((He.cT K ("law", none)).2, (("law" : Str) ++ ".<locals>.") ++ "<lambda>")]
def kb : List (Cn × Cn × Bool) := [(.ty "NoneType", .ty "tuple", false), (.ty "NoneType", .ty "str", false), (.ty "NoneType", .ty "int", false), (.ty "NoneType", .ty "bool", false), (.ty "int", .ty "tuple", false), (.ty "int", .ty "str", false), (.ty "int", .ty "int", true), (.ty "int", .ty "bool", false), (.ty "bool", .ty "tuple", false), (.ty "bool", .ty "str", false), (.ty "bool", .ty "int", true), (.ty "bool", .ty "bool", true), (.ty "str", .ty "tuple", false), (.ty "str", .ty "str", true), (.ty "str", .ty "int", false), (.ty "str", .ty "bool", false), (.ty "tuple", .ty "tuple", true), (.ty "tuple", .ty "str", false), (.ty "tuple", .ty "int", false), (.ty "tuple", .ty "bool", false), (.ty "list", .ty "tuple", false), (.ty "list", .ty "str", false), (.ty "list", .ty "int", false), (.ty "list", .ty "bool", false), (.ty "dict", .ty "tuple", false), (.ty "dict", .ty "str", false), (.ty "dict", .ty "int", false), (.ty "dict", .ty "bool", false), (.own "BadFilter", .own "BadFilter", true), (.ty "NoneType", .own "BadFilter", false)]
def kcs : List Str := ["BadFilter"]
theorem kb_cs : ∀ p ∈ kb, ∀ c, p.1 = .own c → c ∈ kcs := kb_cs_of (by decide +kernel)
def isx (c : Str) : Bool := decide (c ∈ kcs)
theorem isx_of {P : Str → Prop} (h : ∀ c ∈ kcs, P c) : ∀ c, isx c = true → P c := fun c e => h c (of_decide_eq_true e)
def exT (K : PySem.W.Frag) : Bool := tupB K (He.ga K "AXES") ["self", "child", "below"]
def fuelW : Nat := 1000
end K24

namespace K24
open PySem PySem.Spec PyProof.Rows L2 LamX DL
/-! ### the head -/
def fa : List He.Fa := [.glo "is_name", .glo "is_tuple_of", .glo "is_headed", .glo "is_alone", .glo "is_named", .glo "path_nodes", .glo "filter_nodes", .glo "is_filter", .glo "needs_at", .glo "needs_of", .glo "gathered", .glo "are_filters", .glo "demands_of", .glo "is_demands", .glo "_law_begun", .glo "_law_blended", .glo "_law_draw", .glo "_law_pick", .glo "_law_caught", .glo "_law_is_truth", .glo "_law_is_whole", .glo "_law_odd", .glo "_law_bent", .glo "_law_tr_path", .glo "_law_tr_filter", .glo "_law_fp_same", .glo "_law_fp_needs", .glo "_law_fp_demands", .glo "_law_k24_is_name", .glo "_law_k24_steps", .glo "_law_k24_nodes", .glo "_law_k24_is", .glo "_law_k24_great", .glo "_law_k24_exchanged", .glo "law", .glo "AXES", .glo "BadFilter", .glo "LeafError", .free "abs", .free "all", .free "bool", .free "enumerate", .free "int", .free "isinstance", .free "len", .free "list", .free "range", .free "str", .free "sum", .free "tuple", .free "zip", .int "MOST_ASKS" 12, .int "MOST_CONTENT" 60, .int "MOST_DEEP" 12, .int "MOST_DEMANDS" 800, .int "MOST_NAME" 12, .int "MOST_STEPS" 8, .str "FIGURES" "0123456789", .str "SMALL" "abcdefghijklmnopqrstuvwxyz", .exc "BadFilter", .exm "BadFilter" "LeafError" true]
def d_is_name : He.DefD := ⟨("is_name", none), "is_name", "is_name", defArgs t_is_name, defBody t_is_name, defScope t_is_name, [], []⟩
def d_is_tuple_of : He.DefD := ⟨("is_tuple_of", none), "is_tuple_of", "is_tuple_of", defArgs t_is_tuple_of, defBody t_is_tuple_of, defScope t_is_tuple_of, [], []⟩
def d_is_headed : He.DefD := ⟨("is_headed", none), "is_headed", "is_headed", defArgs t_is_headed, defBody t_is_headed, defScope t_is_headed, [], []⟩
def d_is_alone : He.DefD := ⟨("is_alone", none), "is_alone", "is_alone", defArgs t_is_alone, defBody t_is_alone, defScope t_is_alone, [], []⟩
def d_is_named : He.DefD := ⟨("is_named", none), "is_named", "is_named", defArgs t_is_named, defBody t_is_named, defScope t_is_named, [], []⟩
def d_path_nodes : He.DefD := ⟨("path_nodes", none), "path_nodes", "path_nodes", defArgs t_path_nodes, defBody t_path_nodes, defScope t_path_nodes, [], []⟩
def d_filter_nodes : He.DefD := ⟨("filter_nodes", none), "filter_nodes", "filter_nodes", defArgs t_filter_nodes, defBody t_filter_nodes, defScope t_filter_nodes, [], []⟩
def d_is_filter : He.DefD := ⟨("is_filter", none), "is_filter", "is_filter", defArgs t_is_filter, defBody t_is_filter, defScope t_is_filter, [], []⟩
def d_needs_at : He.DefD := ⟨("needs_at", none), "needs_at", "needs_at", defArgs t_needs_at, defBody t_needs_at, defScope t_needs_at, [], []⟩
def d_needs_of : He.DefD := ⟨("needs_of", none), "needs_of", "needs_of", defArgs t_needs_of, defBody t_needs_of, defScope t_needs_of, [], []⟩
def d_gathered : He.DefD := ⟨("gathered", none), "gathered", "gathered", defArgs t_gathered, defBody t_gathered, defScope t_gathered, [], []⟩
def d_are_filters : He.DefD := ⟨("are_filters", none), "are_filters", "are_filters", defArgs t_are_filters, defBody t_are_filters, defScope t_are_filters, [], []⟩
def d_demands_of : He.DefD := ⟨("demands_of", none), "demands_of", "demands_of", defArgs t_demands_of, defBody t_demands_of, defScope t_demands_of, [], []⟩
def d_is_demands : He.DefD := ⟨("is_demands", none), "is_demands", "is_demands", defArgs t_is_demands, defBody t_is_demands, defScope t_is_demands, [], []⟩
def d_w_begun : He.DefD := ⟨("_law_begun", none), "_law_begun", "_law_begun", defArgs t_w_begun, defBody t_w_begun, defScope t_w_begun, [], []⟩
def d_w_blended : He.DefD := ⟨("_law_blended", none), "_law_blended", "_law_blended", defArgs t_w_blended, defBody t_w_blended, defScope t_w_blended, [], []⟩
def d_w_draw : He.DefD := ⟨("_law_draw", none), "_law_draw", "_law_draw", defArgs t_w_draw, defBody t_w_draw, defScope t_w_draw, [], []⟩
def d_w_pick : He.DefD := ⟨("_law_pick", none), "_law_pick", "_law_pick", defArgs t_w_pick, defBody t_w_pick, defScope t_w_pick, [], []⟩
def d_w_caught : He.DefD := ⟨("_law_caught", none), "_law_caught", "_law_caught", defArgs t_w_caught, defBody t_w_caught, defScope t_w_caught, [], []⟩
def d_w_is_truth : He.DefD := ⟨("_law_is_truth", none), "_law_is_truth", "_law_is_truth", defArgs t_w_is_truth, defBody t_w_is_truth, defScope t_w_is_truth, [], []⟩
def d_w_is_whole : He.DefD := ⟨("_law_is_whole", none), "_law_is_whole", "_law_is_whole", defArgs t_w_is_whole, defBody t_w_is_whole, defScope t_w_is_whole, [], []⟩
def d_w_odd : He.DefD := ⟨("_law_odd", none), "_law_odd", "_law_odd", defArgs t_w_odd, defBody t_w_odd, defScope t_w_odd, [], []⟩
def d_w_bent : He.DefD := ⟨("_law_bent", none), "_law_bent", "_law_bent", defArgs t_w_bent, defBody t_w_bent, defScope t_w_bent, [], []⟩
def d_w_tr_path : He.DefD := ⟨("_law_tr_path", none), "_law_tr_path", "_law_tr_path", defArgs t_w_tr_path, defBody t_w_tr_path, defScope t_w_tr_path, [], []⟩
def d_w_tr_filter : He.DefD := ⟨("_law_tr_filter", none), "_law_tr_filter", "_law_tr_filter", defArgs t_w_tr_filter, defBody t_w_tr_filter, defScope t_w_tr_filter, [], []⟩
def d_w_fp_same : He.DefD := ⟨("_law_fp_same", none), "_law_fp_same", "_law_fp_same", defArgs t_w_fp_same, defBody t_w_fp_same, defScope t_w_fp_same, [], []⟩
def d_w_fp_needs : He.DefD := ⟨("_law_fp_needs", none), "_law_fp_needs", "_law_fp_needs", defArgs t_w_fp_needs, defBody t_w_fp_needs, defScope t_w_fp_needs, [], []⟩
def d_w_fp_demands : He.DefD := ⟨("_law_fp_demands", none), "_law_fp_demands", "_law_fp_demands", defArgs t_w_fp_demands, defBody t_w_fp_demands, defScope t_w_fp_demands, [], []⟩
def d_w_k24_is_name : He.DefD := ⟨("_law_k24_is_name", none), "_law_k24_is_name", "_law_k24_is_name", defArgs t_w_k24_is_name, defBody t_w_k24_is_name, defScope t_w_k24_is_name, [], []⟩
def d_w_k24_steps : He.DefD := ⟨("_law_k24_steps", none), "_law_k24_steps", "_law_k24_steps", defArgs t_w_k24_steps, defBody t_w_k24_steps, defScope t_w_k24_steps, [], []⟩
def d_w_k24_nodes : He.DefD := ⟨("_law_k24_nodes", none), "_law_k24_nodes", "_law_k24_nodes", defArgs t_w_k24_nodes, defBody t_w_k24_nodes, defScope t_w_k24_nodes, [], []⟩
def d_w_k24_is : He.DefD := ⟨("_law_k24_is", none), "_law_k24_is", "_law_k24_is", defArgs t_w_k24_is, defBody t_w_k24_is, defScope t_w_k24_is, [], []⟩
def d_w_k24_great : He.DefD := ⟨("_law_k24_great", none), "_law_k24_great", "_law_k24_great", defArgs t_w_k24_great, defBody t_w_k24_great, defScope t_w_k24_great, [], []⟩
def d_w_k24_exchanged : He.DefD := ⟨("_law_k24_exchanged", none), "_law_k24_exchanged", "_law_k24_exchanged", defArgs t_w_k24_exchanged, defBody t_w_k24_exchanged, defScope t_w_k24_exchanged, [], []⟩
def d_law : He.DefD := ⟨("law", none), "law", "law", defArgs t_law, defBody t_law, defScope t_law, [], []⟩
def fn : List He.DefD := [d_is_name, d_is_tuple_of, d_is_headed, d_is_alone, d_is_named, d_path_nodes, d_filter_nodes, d_is_filter, d_needs_at, d_needs_of, d_gathered, d_are_filters, d_demands_of, d_is_demands, d_w_begun, d_w_blended, d_w_draw, d_w_pick, d_w_caught, d_w_is_truth, d_w_is_whole, d_w_odd, d_w_bent, d_w_tr_path, d_w_tr_filter, d_w_fp_same, d_w_fp_needs, d_w_fp_demands, d_w_k24_is_name, d_w_k24_steps, d_w_k24_nodes, d_w_k24_is, d_w_k24_great, d_w_k24_exchanged, d_law]
def tf : List He.Defn := [("law", none)]
def ex (K : PySem.W.Frag) : Bool := kbOk K kb && (excOk K kcs && (decide ((tf.map fun p => (He.cT K p).2).Nodup) && exT K))
def loose0 : List Str := ["LeafError", "BadFilter", "SMALL", "FIGURES", "MOST_NAME", "is_name", "is_tuple_of", "is_headed", "MOST_CONTENT", "MOST_DEEP", "MOST_STEPS", "MOST_ASKS", "AXES", "is_alone", "is_named", "path_nodes", "filter_nodes", "is_filter", "MOST_DEMANDS", "needs_at", "needs_of", "gathered", "are_filters", "demands_of", "is_demands", "_law_begun", "_law_blended", "_law_draw", "_law_pick", "_law_caught"]
def loose1 : List Str := ["_law_is_truth", "_law_is_whole", "_law_bent", "_law_odd", "_law_tr_filter", "_law_tr_path", "_law_fp_same", "_law_fp_needs", "_law_fp_demands", "_law_k24_is_name", "_law_k24_steps", "_law_k24_nodes", "_law_k24_is", "_law_k24_great", "_law_k24_exchanged"]
def loose : List Str := loose0 ++ loose1
abbrev R : PySem.W.OpenRow := PySem.W.OpenLaw.row PySem.Challenge.rw_sureleaves_k24_demands
abbrev hk : PySem.W.Hook := He.hookX 5 fa fn [] tf ex
def ob (s : PySem.W.SharedT) : He.AlX := He.obsX 5 fa fn [] tf ex (HandSHeadRun.getT s)
theorem ob_eq (s : PySem.W.SharedT) : ob s = hk.obs s.abs := He.obsX_eq (HandSHeadRun.getT_eq s)
theorem run (w : World) : HandSHeadRun.RunEq R (PySem.W.view R.prog [50]) hk ob 6000 loose w := by
  intro os
  kernel_rfl
end K24

namespace K24
open PySem PySem.Spec PyProof.Rows L2 LamX DL
structure Fx (w : World) (K : PySem.W.Frag) (mg : Str → Option Value) (base : Heap) : Prop where
  f_is_name : ∃ fd, FunD K "is_name" "is_name" (defArgs t_is_name) (defBody t_is_name) (defScope t_is_name) [] [] (He.ga K "is_name") fd
  m_is_name : mg "is_name" = some (.ref (He.ga K "is_name"))
  f_is_tuple_of : ∃ fd, FunD K "is_tuple_of" "is_tuple_of" (defArgs t_is_tuple_of) (defBody t_is_tuple_of) (defScope t_is_tuple_of) [] [] (He.ga K "is_tuple_of") fd
  m_is_tuple_of : mg "is_tuple_of" = some (.ref (He.ga K "is_tuple_of"))
  f_is_headed : ∃ fd, FunD K "is_headed" "is_headed" (defArgs t_is_headed) (defBody t_is_headed) (defScope t_is_headed) [] [] (He.ga K "is_headed") fd
  m_is_headed : mg "is_headed" = some (.ref (He.ga K "is_headed"))
  f_is_alone : ∃ fd, FunD K "is_alone" "is_alone" (defArgs t_is_alone) (defBody t_is_alone) (defScope t_is_alone) [] [] (He.ga K "is_alone") fd
  m_is_alone : mg "is_alone" = some (.ref (He.ga K "is_alone"))
  f_is_named : ∃ fd, FunD K "is_named" "is_named" (defArgs t_is_named) (defBody t_is_named) (defScope t_is_named) [] [] (He.ga K "is_named") fd
  m_is_named : mg "is_named" = some (.ref (He.ga K "is_named"))
  f_path_nodes : ∃ fd, FunD K "path_nodes" "path_nodes" (defArgs t_path_nodes) (defBody t_path_nodes) (defScope t_path_nodes) [] [] (He.ga K "path_nodes") fd
  m_path_nodes : mg "path_nodes" = some (.ref (He.ga K "path_nodes"))
  f_filter_nodes : ∃ fd, FunD K "filter_nodes" "filter_nodes" (defArgs t_filter_nodes) (defBody t_filter_nodes) (defScope t_filter_nodes) [] [] (He.ga K "filter_nodes") fd
  m_filter_nodes : mg "filter_nodes" = some (.ref (He.ga K "filter_nodes"))
  f_is_filter : ∃ fd, FunD K "is_filter" "is_filter" (defArgs t_is_filter) (defBody t_is_filter) (defScope t_is_filter) [] [] (He.ga K "is_filter") fd
  m_is_filter : mg "is_filter" = some (.ref (He.ga K "is_filter"))
  f_needs_at : ∃ fd, FunD K "needs_at" "needs_at" (defArgs t_needs_at) (defBody t_needs_at) (defScope t_needs_at) [] [] (He.ga K "needs_at") fd
  m_needs_at : mg "needs_at" = some (.ref (He.ga K "needs_at"))
  f_needs_of : ∃ fd, FunD K "needs_of" "needs_of" (defArgs t_needs_of) (defBody t_needs_of) (defScope t_needs_of) [] [] (He.ga K "needs_of") fd
  m_needs_of : mg "needs_of" = some (.ref (He.ga K "needs_of"))
  f_gathered : ∃ fd, FunD K "gathered" "gathered" (defArgs t_gathered) (defBody t_gathered) (defScope t_gathered) [] [] (He.ga K "gathered") fd
  m_gathered : mg "gathered" = some (.ref (He.ga K "gathered"))
  f_are_filters : ∃ fd, FunD K "are_filters" "are_filters" (defArgs t_are_filters) (defBody t_are_filters) (defScope t_are_filters) [] [] (He.ga K "are_filters") fd
  m_are_filters : mg "are_filters" = some (.ref (He.ga K "are_filters"))
  f_demands_of : ∃ fd, FunD K "demands_of" "demands_of" (defArgs t_demands_of) (defBody t_demands_of) (defScope t_demands_of) [] [] (He.ga K "demands_of") fd
  m_demands_of : mg "demands_of" = some (.ref (He.ga K "demands_of"))
  f_is_demands : ∃ fd, FunD K "is_demands" "is_demands" (defArgs t_is_demands) (defBody t_is_demands) (defScope t_is_demands) [] [] (He.ga K "is_demands") fd
  m_is_demands : mg "is_demands" = some (.ref (He.ga K "is_demands"))
  f_w_begun : ∃ fd, FunD K "_law_begun" "_law_begun" (defArgs t_w_begun) (defBody t_w_begun) (defScope t_w_begun) [] [] (He.ga K "_law_begun") fd
  m_w_begun : mg "_law_begun" = some (.ref (He.ga K "_law_begun"))
  f_w_blended : ∃ fd, FunD K "_law_blended" "_law_blended" (defArgs t_w_blended) (defBody t_w_blended) (defScope t_w_blended) [] [] (He.ga K "_law_blended") fd
  m_w_blended : mg "_law_blended" = some (.ref (He.ga K "_law_blended"))
  f_w_draw : ∃ fd, FunD K "_law_draw" "_law_draw" (defArgs t_w_draw) (defBody t_w_draw) (defScope t_w_draw) [] [] (He.ga K "_law_draw") fd
  m_w_draw : mg "_law_draw" = some (.ref (He.ga K "_law_draw"))
  f_w_pick : ∃ fd, FunD K "_law_pick" "_law_pick" (defArgs t_w_pick) (defBody t_w_pick) (defScope t_w_pick) [] [] (He.ga K "_law_pick") fd
  m_w_pick : mg "_law_pick" = some (.ref (He.ga K "_law_pick"))
  f_w_caught : ∃ fd, FunD K "_law_caught" "_law_caught" (defArgs t_w_caught) (defBody t_w_caught) (defScope t_w_caught) [] [] (He.ga K "_law_caught") fd
  m_w_caught : mg "_law_caught" = some (.ref (He.ga K "_law_caught"))
  f_w_is_truth : ∃ fd, FunD K "_law_is_truth" "_law_is_truth" (defArgs t_w_is_truth) (defBody t_w_is_truth) (defScope t_w_is_truth) [] [] (He.ga K "_law_is_truth") fd
  m_w_is_truth : mg "_law_is_truth" = some (.ref (He.ga K "_law_is_truth"))
  f_w_is_whole : ∃ fd, FunD K "_law_is_whole" "_law_is_whole" (defArgs t_w_is_whole) (defBody t_w_is_whole) (defScope t_w_is_whole) [] [] (He.ga K "_law_is_whole") fd
  m_w_is_whole : mg "_law_is_whole" = some (.ref (He.ga K "_law_is_whole"))
  f_w_odd : ∃ fd, FunD K "_law_odd" "_law_odd" (defArgs t_w_odd) (defBody t_w_odd) (defScope t_w_odd) [] [] (He.ga K "_law_odd") fd
  m_w_odd : mg "_law_odd" = some (.ref (He.ga K "_law_odd"))
  f_w_bent : ∃ fd, FunD K "_law_bent" "_law_bent" (defArgs t_w_bent) (defBody t_w_bent) (defScope t_w_bent) [] [] (He.ga K "_law_bent") fd
  m_w_bent : mg "_law_bent" = some (.ref (He.ga K "_law_bent"))
  f_w_tr_path : ∃ fd, FunD K "_law_tr_path" "_law_tr_path" (defArgs t_w_tr_path) (defBody t_w_tr_path) (defScope t_w_tr_path) [] [] (He.ga K "_law_tr_path") fd
  m_w_tr_path : mg "_law_tr_path" = some (.ref (He.ga K "_law_tr_path"))
  f_w_tr_filter : ∃ fd, FunD K "_law_tr_filter" "_law_tr_filter" (defArgs t_w_tr_filter) (defBody t_w_tr_filter) (defScope t_w_tr_filter) [] [] (He.ga K "_law_tr_filter") fd
  m_w_tr_filter : mg "_law_tr_filter" = some (.ref (He.ga K "_law_tr_filter"))
  f_w_fp_same : ∃ fd, FunD K "_law_fp_same" "_law_fp_same" (defArgs t_w_fp_same) (defBody t_w_fp_same) (defScope t_w_fp_same) [] [] (He.ga K "_law_fp_same") fd
  m_w_fp_same : mg "_law_fp_same" = some (.ref (He.ga K "_law_fp_same"))
  f_w_fp_needs : ∃ fd, FunD K "_law_fp_needs" "_law_fp_needs" (defArgs t_w_fp_needs) (defBody t_w_fp_needs) (defScope t_w_fp_needs) [] [] (He.ga K "_law_fp_needs") fd
  m_w_fp_needs : mg "_law_fp_needs" = some (.ref (He.ga K "_law_fp_needs"))
  f_w_fp_demands : ∃ fd, FunD K "_law_fp_demands" "_law_fp_demands" (defArgs t_w_fp_demands) (defBody t_w_fp_demands) (defScope t_w_fp_demands) [] [] (He.ga K "_law_fp_demands") fd
  m_w_fp_demands : mg "_law_fp_demands" = some (.ref (He.ga K "_law_fp_demands"))
  f_w_k24_is_name : ∃ fd, FunD K "_law_k24_is_name" "_law_k24_is_name" (defArgs t_w_k24_is_name) (defBody t_w_k24_is_name) (defScope t_w_k24_is_name) [] [] (He.ga K "_law_k24_is_name") fd
  m_w_k24_is_name : mg "_law_k24_is_name" = some (.ref (He.ga K "_law_k24_is_name"))
  f_w_k24_steps : ∃ fd, FunD K "_law_k24_steps" "_law_k24_steps" (defArgs t_w_k24_steps) (defBody t_w_k24_steps) (defScope t_w_k24_steps) [] [] (He.ga K "_law_k24_steps") fd
  m_w_k24_steps : mg "_law_k24_steps" = some (.ref (He.ga K "_law_k24_steps"))
  f_w_k24_nodes : ∃ fd, FunD K "_law_k24_nodes" "_law_k24_nodes" (defArgs t_w_k24_nodes) (defBody t_w_k24_nodes) (defScope t_w_k24_nodes) [] [] (He.ga K "_law_k24_nodes") fd
  m_w_k24_nodes : mg "_law_k24_nodes" = some (.ref (He.ga K "_law_k24_nodes"))
  f_w_k24_is : ∃ fd, FunD K "_law_k24_is" "_law_k24_is" (defArgs t_w_k24_is) (defBody t_w_k24_is) (defScope t_w_k24_is) [] [] (He.ga K "_law_k24_is") fd
  m_w_k24_is : mg "_law_k24_is" = some (.ref (He.ga K "_law_k24_is"))
  f_w_k24_great : ∃ fd, FunD K "_law_k24_great" "_law_k24_great" (defArgs t_w_k24_great) (defBody t_w_k24_great) (defScope t_w_k24_great) [] [] (He.ga K "_law_k24_great") fd
  m_w_k24_great : mg "_law_k24_great" = some (.ref (He.ga K "_law_k24_great"))
  f_w_k24_exchanged : ∃ fd, FunD K "_law_k24_exchanged" "_law_k24_exchanged" (defArgs t_w_k24_exchanged) (defBody t_w_k24_exchanged) (defScope t_w_k24_exchanged) [] [] (He.ga K "_law_k24_exchanged") fd
  m_w_k24_exchanged : mg "_law_k24_exchanged" = some (.ref (He.ga K "_law_k24_exchanged"))
  f_law : ∃ fd, FunD K "law" "law" (defArgs t_law) (defBody t_law) (defScope t_law) [] [] (He.ga K "law") fd
  m_law : mg "law" = some (.ref (He.ga K "law"))
  m_AXES : mg "AXES" = some (.ref (He.ga K "AXES"))
  m_BadFilter : mg "BadFilter" = some (.ref (He.ga K "BadFilter"))
  m_LeafError : mg "LeafError" = some (.ref (He.ga K "LeafError"))
  x_BadFilter : PySem.W.excIn K (He.ga K "BadFilter") He.veBase "ValueError.__new__" = true
  k_BadFilter : PySem.W.keepIn K (.ref (He.ga K "BadFilter")) = true
  rs_BadFilter : PySem.W.subIn K (.ref (He.ga K "BadFilter")) (.type "BaseException") = some true ∧ PySem.W.typeIn K (.ref (He.ga K "BadFilter")) = some (.type "type")
  n_abs : mg "abs" = none
  n_all : mg "all" = none
  n_bool : mg "bool" = none
  n_enumerate : mg "enumerate" = none
  n_int : mg "int" = none
  n_isinstance : mg "isinstance" = none
  n_len : mg "len" = none
  n_list : mg "list" = none
  n_range : mg "range" = none
  n_str : mg "str" = none
  n_sum : mg "sum" = none
  n_tuple : mg "tuple" = none
  n_zip : mg "zip" = none
  i_MOST_ASKS : ∃ t, mg "MOST_ASKS" = some (.int 12 t)
  i_MOST_CONTENT : ∃ t, mg "MOST_CONTENT" = some (.int 60 t)
  i_MOST_DEEP : ∃ t, mg "MOST_DEEP" = some (.int 12 t)
  i_MOST_DEMANDS : ∃ t, mg "MOST_DEMANDS" = some (.int 800 t)
  i_MOST_NAME : ∃ t, mg "MOST_NAME" = some (.int 12 t)
  i_MOST_STEPS : ∃ t, mg "MOST_STEPS" = some (.int 8 t)
  s_FIGURES : ∃ t, mg "FIGURES" = some (.str "0123456789" t)
  s_SMALL : ∃ t, mg "SMALL" = some (.str "abcdefghijklmnopqrstuvwxyz" t)
  u_AXES : tupB K (He.ga K "AXES") ["self", "child", "below"] = true
  kb : kbOk K kb = true
  xc : excOk K kcs = true
  isx : ∀ c, isx c = true → PySem.W.exmOne K (.ref (He.ga K c)) (.ref (He.ga K "LeafError")) = some true
  tb_law : TabB base mg (He.codeOf K ("law", none)) (He.cT K ("law", none)).2
  hu_law : ∀ p ∈ TT K, p.1 = (He.cT K ("law", none)).2 → p.2 = (("law" : Str) ++ ".<locals>.") ++ "<lambda>"
section
variable {w : World} {K : PySem.W.Frag} {mg : Str → Option Value} {base : Heap}
abbrev Pr : Program := PySem.Challenge.pw_sureleaves_k24_demands
def g_is_name : EvS := (sSeq (sIf (tOr (tNot (tB (eOpN (gIsc kb) (aCons (eVar 0) (aCons (eC (.ty "str")) aNil))))) (tOr (tB (eOp2 gEqX (eVar 0) (eC (.str "")))) (tOr (tB (eOp2 gGt (eOpN gLen (aCons (eVar 0) aNil)) (eC (.int 12)))) (tB (eOp2 (gInS true) (eOp2 gIx (eVar 0) (eC (.int 0))) (eC (.str "abcdefghijklmnopqrstuvwxyz"))))))) (sRet (eC (.bl false))) sNext) (sRet (eOpN gAll (aCons (eComp (iAny (eVar 0)) (gdName 1) tTrue (eOp2 (gInS false) (eVar 1) (eOp2 gAdd (eOp2 gAdd (eC (.str "abcdefghijklmnopqrstuvwxyz")) (eC (.str "0123456789"))) (eC (.str "_")))) [1]) aNil))))
def f_is_name : List D → Om → Rs D := runB 2 g_is_name
theorem r_is_name (fx : Fx w K mg base) {P : PP}  : Cal Pr w K mg base "is_name" 1 ["value"] P (f_is_name) := by
  obtain ⟨fd, F⟩ := fx.f_is_name
  exact cal_of (N := ["value", "sign"]) (g := g_is_name) F fx.m_is_name sc_is_name rfl (fun cdv ecd A outer s H E hr tk => (sd_cons (sd_if (td_w (wd_or (td_not (td_val (pd_callB c_isc (o_isc fx.kb fx.xc kb_cs) fx.n_isinstance (by decide +kernel) (ad_cons (pd_var 0) (ad_cons (pd_ty fx.n_str (by decide +kernel)) ad_nil))))) (wd_or (td_cmp (c_eqX hr.units) o_eqX (by first | exact nobehind _ (by decide) (by decide) | rfl) (pd_var 0) pd_str) (wd_or (td_cmp op_gt o_gt (by first | exact nobehind _ (by decide) (by decide) | rfl) (pd_callB call_len opn_len fx.n_len (by decide +kernel) (ad_cons (pd_var 0) ad_nil)) (pd_gint fx.i_MOST_NAME)) (wd_or1 (td_cmp op_notIn_sign o_notInS (by first | exact nobehind _ (by decide) (by decide) | rfl) (pd_ix ix_seq op2_ix (pd_var 0) pd_int) (pd_gstr fx.s_SMALL))))))) (sd_one (sd_ret pd_bl)) sd_nil) (sd_one (sd_ret (pd_callB (cr_all rfl) opn_all fx.n_all (by decide +kernel) (ad_cons (pd_lc rfl sc_is_name.nd (id_any (pd_var 0)) (blkOk_by (own := [("sign", 1)]) (by kernel_rfl)) (fun p => (gd_name (i := 1) sc_is_name.nd rfl (by first | exact .inl rfl | exact .inr rfl))) (fun p => tsd_nil) (fun p => (pd_cmp op_in_sign o_inS (by first | exact nobehind _ (by decide) (by decide) | rfl) (pd_var 1) (pd_op op_addA op2_add (pd_op op_addA op2_add (pd_gstr fx.s_SMALL) (pd_gstr fx.s_FIGURES)) pd_str)))) ad_nil)))))) (fun _ _ _ _ _ _ us hl => match us, hl with | [_], _ => rfl)
def g_is_tuple_of : EvS := (sRet (eAnd (eOpN (gIsc kb) (aCons (eVar 0) (aCons (eC (.ty "tuple")) aNil))) (eOp2 gEqX (eOpN gLen (aCons (eVar 0) aNil)) (eVar 1))))
def f_is_tuple_of : List D → Om → Rs D := runB 2 g_is_tuple_of
theorem r_is_tuple_of (fx : Fx w K mg base) {P : PP}  : Cal Pr w K mg base "is_tuple_of" 1 ["value", "size"] P (f_is_tuple_of) := by
  obtain ⟨fd, F⟩ := fx.f_is_tuple_of
  exact cal_of (N := ["value", "size"]) (g := g_is_tuple_of) F fx.m_is_tuple_of sc_is_tuple_of rfl (fun cdv ecd A outer s H E hr tk => (sd_one (sd_ret (pd_and (pd_callB c_isc (o_isc fx.kb fx.xc kb_cs) fx.n_isinstance (by decide +kernel) (ad_cons (pd_var 0) (ad_cons (pd_ty fx.n_tuple (by decide +kernel)) ad_nil))) (pd_one (pd_cmp (c_eqX hr.units) o_eqX (by first | exact nobehind _ (by decide) (by decide) | rfl) (pd_callB call_len opn_len fx.n_len (by decide +kernel) (ad_cons (pd_var 0) ad_nil)) (pd_var 1))))))) (fun _ _ _ _ _ _ us hl => match us, hl with | [_, _], _ => rfl)
def g_is_headed : EvS := (sRet (eAnd (eOpN (gIsc kb) (aCons (eVar 0) (aCons (eC (.ty "tuple")) aNil))) (eAnd (eOp2 gNeX (eVar 0) (eOpN gTup aNil)) (eOpN (gIsc kb) (aCons (eOp2 gIx (eVar 0) (eC (.int 0))) (aCons (eC (.ty "str")) aNil))))))
def f_is_headed : List D → Om → Rs D := runB 1 g_is_headed
theorem r_is_headed (fx : Fx w K mg base) {P : PP}  : Cal Pr w K mg base "is_headed" 1 ["value"] P (f_is_headed) := by
  obtain ⟨fd, F⟩ := fx.f_is_headed
  exact cal_of (N := ["value"]) (g := g_is_headed) F fx.m_is_headed sc_is_headed rfl (fun cdv ecd A outer s H E hr tk => (sd_one (sd_ret (pd_and (pd_callB c_isc (o_isc fx.kb fx.xc kb_cs) fx.n_isinstance (by decide +kernel) (ad_cons (pd_var 0) (ad_cons (pd_ty fx.n_tuple (by decide +kernel)) ad_nil))) (pd_and (pd_cmp (c_neX hr.units) o_neX (by first | exact nobehind _ (by decide) (by decide) | rfl) (pd_var 0) (pd_tup ad_nil)) (pd_one (pd_callB c_isc (o_isc fx.kb fx.xc kb_cs) fx.n_isinstance (by decide +kernel) (ad_cons (pd_ix ix_seq op2_ix (pd_var 0) pd_int) (ad_cons (pd_ty fx.n_str (by decide +kernel)) ad_nil))))))))) (fun _ _ _ _ _ _ us hl => match us, hl with | [_], _ => rfl)
def g_is_alone : EvS := (sRet (eOp2 gEqX (eOpN gLen (aCons (eVar 0) aNil)) (eC (.int 1))))
def f_is_alone : List D → Om → Rs D := runB 1 g_is_alone
theorem r_is_alone (fx : Fx w K mg base) {P : PP}  : Cal Pr w K mg base "is_alone" 1 ["value"] P (f_is_alone) := by
  obtain ⟨fd, F⟩ := fx.f_is_alone
  exact cal_of (N := ["value"]) (g := g_is_alone) F fx.m_is_alone sc_is_alone rfl (fun cdv ecd A outer s H E hr tk => (sd_one (sd_ret (pd_cmp (c_eqX hr.units) o_eqX (by first | exact nobehind _ (by decide) (by decide) | rfl) (pd_callB call_len opn_len fx.n_len (by decide +kernel) (ad_cons (pd_var 0) ad_nil)) pd_int)))) (fun _ _ _ _ _ _ us hl => match us, hl with | [_], _ => rfl)
def g_is_named : EvS := (sRet (eAnd (eOp2 gEqX (eOpN gLen (aCons (eVar 0) aNil)) (eC (.int 2))) (eCall f_is_name (aCons (eOp2 gIx (eVar 0) (eC (.int 1))) aNil))))
def f_is_named : List D → Om → Rs D := runB 1 g_is_named
theorem r_is_named (fx : Fx w K mg base) {P : PP} (h_is_name : Cal Pr w K mg base "is_name" 1 ["value"] P f_is_name) : Cal Pr w K mg base "is_named" 2 ["value"] P (f_is_named) := by
  obtain ⟨fd, F⟩ := fx.f_is_named
  exact cal_of (N := ["value"]) (g := g_is_named) F fx.m_is_named sc_is_named rfl (fun cdv ecd A outer s H E hr tk => (sd_one (sd_ret (pd_and (pd_cmp (c_eqX hr.units) o_eqX (by first | exact nobehind _ (by decide) (by decide) | rfl) (pd_callB call_len opn_len fx.n_len (by decide +kernel) (ad_cons (pd_var 0) ad_nil)) pd_int) (pd_one (pd_cal (ps := ["value"]) h_is_name (hr.mono (by decide)) tk (LenA.cons LenA.nil) (ad_cons (pd_ix ix_seq op2_ix (pd_var 0) pd_int) ad_nil))))))) (fun _ _ _ _ _ _ us hl => match us, hl with | [_], _ => rfl)
def g_path_nodes (F_filter_nodes : List D → Om → Rs D) : EvS := (sSeq (sIf (tOr (tNot (tB (eOpN (gIsc kb) (aCons (eVar 0) (aCons (eC (.ty "tuple")) aNil))))) (tB (eOp2 gGt (eOpN gLen (aCons (eVar 0) aNil)) (eC (.int 8))))) (sRet (eOp2 gAdd (eC (.int 60)) (eC (.int 1)))) sNext) (sSeq (sSet 2 (eC (.int 0))) (sSeq (sFor (iAny (eVar 0)) (gdName 3) (sSeq (sIf (tOr (tNot (tB (eCall f_is_tuple_of (aCons (eVar 3) (aCons (eC (.int 2)) aNil))))) (tOr (tNot (tB (eOpN (gIsc kb) (aCons (eOp2 gIx (eVar 3) (eC (.int 0))) (aCons (eC (.ty "str")) aNil))))) (tB (eOp2 (gInV true) (eOp2 gIx (eVar 3) (eC (.int 0))) (eC (.tup [.str "self", .str "child", .str "below"])))))) (sRet (eOp2 gAdd (eC (.int 60)) (eC (.int 1)))) sNext) (sSeq (sSet 2 (eOp2 gAdd (eOp2 gAdd (eVar 2) (eC (.int 1))) (eCall F_filter_nodes (aCons (eOp2 gIx (eVar 3) (eC (.int 1))) (aCons (eVar 1) aNil))))) (sIf (tB (eOp2 gGt (eVar 2) (eC (.int 60)))) (sRet (eVar 2)) sNext)))) (sRet (eVar 2)))))
theorem r_path_nodes (fx : Fx w K mg base) {P : PP} {k : Nat} {F_filter_nodes : List D → Om → Rs D} (hk : 2 ≤ k) (h_filter_nodes : Cal Pr w K mg base "filter_nodes" k ["value", "deep"] P F_filter_nodes) (h_is_tuple_of : Cal Pr w K mg base "is_tuple_of" 1 ["value", "size"] P f_is_tuple_of) : Cal Pr w K mg base "path_nodes" (k + 1) ["value", "deep"] P (runB 4 (g_path_nodes F_filter_nodes)) := by
  obtain ⟨fd, F⟩ := fx.f_path_nodes
  exact cal_of (N := ["value", "deep", "found", "step"]) (g := g_path_nodes F_filter_nodes) F fx.m_path_nodes sc_path_nodes rfl (fun cdv ecd A outer s H E hr tk => (sd_cons (sd_if (td_w (wd_or (td_not (td_val (pd_callB c_isc (o_isc fx.kb fx.xc kb_cs) fx.n_isinstance (by decide +kernel) (ad_cons (pd_var 0) (ad_cons (pd_ty fx.n_tuple (by decide +kernel)) ad_nil))))) (wd_or1 (td_cmp op_gt o_gt (by first | exact nobehind _ (by decide) (by decide) | rfl) (pd_callB call_len opn_len fx.n_len (by decide +kernel) (ad_cons (pd_var 0) ad_nil)) (pd_gint fx.i_MOST_STEPS))))) (sd_one (sd_ret (pd_op op_addA op2_add (pd_gint fx.i_MOST_CONTENT) pd_int))) sd_nil) (sd_cons (sd_set (i := 2) sc_path_nodes.nd rfl (by first | exact .inl rfl | exact .inr rfl) pd_int) (sd_cons (sd_for (passes_of rfl) rfl (id_any (pd_var 0)) (gd_name (i := 3) sc_path_nodes.nd rfl (by first | exact .inl rfl | exact .inr rfl)) (sd_cons (sd_if (td_w (wd_or (td_not (td_val (pd_cal (ps := ["value", "size"]) h_is_tuple_of (hr.mono (by omega)) tk (LenA.cons (LenA.cons LenA.nil)) (ad_cons (pd_var 3) (ad_cons pd_int ad_nil))))) (wd_or (td_not (td_val (pd_callB c_isc (o_isc fx.kb fx.xc kb_cs) fx.n_isinstance (by decide +kernel) (ad_cons (pd_ix ix_seq op2_ix (pd_var 3) pd_int) (ad_cons (pd_ty fx.n_str (by decide +kernel)) ad_nil))))) (wd_or1 (td_cmp op_notIn_seq o_inV (by first | exact nobehind _ (by decide) (by decide) | rfl) (pd_ix ix_seq op2_ix (pd_var 3) pd_int) (pd_gtup (ks := ["self", "child", "below"]) fx.m_AXES fx.u_AXES)))))) (sd_one (sd_ret (pd_op op_addA op2_add (pd_gint fx.i_MOST_CONTENT) pd_int))) sd_nil) (sd_cons (sd_set (i := 2) sc_path_nodes.nd rfl (by first | exact .inl rfl | exact .inr rfl) (pd_op op_addA op2_add (pd_op op_addA op2_add (pd_var 2) pd_int) (pd_cal (ps := ["value", "deep"]) h_filter_nodes (hr.mono (by omega)) tk (LenA.cons (LenA.cons LenA.nil)) (ad_cons (pd_ix ix_seq op2_ix (pd_var 3) pd_int) (ad_cons (pd_var 1) ad_nil))))) (sd_one (sd_if (td_cmp op_gt o_gt (by first | exact nobehind _ (by decide) (by decide) | rfl) (pd_var 2) (pd_gint fx.i_MOST_CONTENT)) (sd_one (sd_ret (pd_var 2))) sd_nil))))) (sd_one (sd_ret (pd_var 2))))))) (fun _ _ _ _ _ _ us hl => match us, hl with | [_, _], _ => rfl)
def g_filter_nodes (F_filter_nodes F_path_nodes : List D → Om → Rs D) : EvS := (sSeq (sIf (tOr (tB (eOp2 gEqX (eVar 1) (eC (.int 0)))) (tNot (tB (eCall f_is_headed (aCons (eVar 0) aNil))))) (sRet (eOp2 gAdd (eC (.int 60)) (eC (.int 1)))) sNext) (sSeq (sIf (tB (eOp2 gEqX (eOp2 gIx (eVar 0) (eC (.int 0))) (eC (.str "true")))) (sRet (eIf (tB (eCall f_is_alone (aCons (eVar 0) aNil))) (eC (.int 1)) (eOp2 gAdd (eC (.int 60)) (eC (.int 1))))) sNext) (sSeq (sIf (tB (eOp2 gEqX (eOp2 gIx (eVar 0) (eC (.int 0))) (eC (.str "label")))) (sRet (eIf (tB (eCall f_is_named (aCons (eVar 0) aNil))) (eC (.int 1)) (eOp2 gAdd (eC (.int 60)) (eC (.int 1))))) sNext) (sSeq (sIf (tB (eOp2 gEqX (eOp2 gIx (eVar 0) (eC (.int 0))) (eC (.str "some")))) (sRet (eIf (tB (eOp2 gEqX (eOpN gLen (aCons (eVar 0) aNil)) (eC (.int 2)))) (eOp2 gAdd (eC (.int 1)) (eCall F_path_nodes (aCons (eOp2 gIx (eVar 0) (eC (.int 1))) (aCons (eOp2 gSub (eVar 1) (eC (.int 1))) aNil)))) (eOp2 gAdd (eC (.int 60)) (eC (.int 1))))) sNext) (sSeq (sSet 2 (eC (.map ["not", "and", "or"] [.int 2, .int 3, .int 3]))) (sSeq (sIf (tOr (tB (eOp2 (gDIn true) (eOp2 gIx (eVar 0) (eC (.int 0))) (eVar 2))) (tB (eOp2 gNeX (eOpN gLen (aCons (eVar 0) aNil)) (eOp2 gDIx (eVar 2) (eOp2 gIx (eVar 0) (eC (.int 0))))))) (sRet (eOp2 gAdd (eC (.int 60)) (eC (.int 1)))) sNext) (sRet (eOp2 gAdd (eC (.int 1)) (eOpN gSum (aCons (eComp (iAny (eSl gSl (eVar 0) (oSome (eC (.int 1))) oNone)) (gdName 3) tTrue (eCall F_filter_nodes (aCons (eVar 3) (aCons (eOp2 gSub (eVar 1) (eC (.int 1))) aNil))) [3]) aNil))))))))))
theorem r_filter_nodes (fx : Fx w K mg base) {P : PP} {k : Nat} {F_filter_nodes F_path_nodes : List D → Om → Rs D} (hk : 2 ≤ k) (h_filter_nodes : Cal Pr w K mg base "filter_nodes" k ["value", "deep"] P F_filter_nodes) (h_path_nodes : Cal Pr w K mg base "path_nodes" (k + 1) ["value", "deep"] P F_path_nodes) (h_is_alone : Cal Pr w K mg base "is_alone" 1 ["value"] P f_is_alone) (h_is_headed : Cal Pr w K mg base "is_headed" 1 ["value"] P f_is_headed) (h_is_named : Cal Pr w K mg base "is_named" 2 ["value"] P f_is_named) : Cal Pr w K mg base "filter_nodes" (k + 2) ["value", "deep"] P (runB 4 (g_filter_nodes F_filter_nodes F_path_nodes)) := by
  obtain ⟨fd, F⟩ := fx.f_filter_nodes
  exact cal_of (N := ["value", "deep", "many", "part"]) (g := g_filter_nodes F_filter_nodes F_path_nodes) F fx.m_filter_nodes sc_filter_nodes rfl (fun cdv ecd A outer s H E hr tk => (sd_cons (sd_if (td_w (wd_or (td_cmp (c_eqX hr.units) o_eqX (by first | exact nobehind _ (by decide) (by decide) | rfl) (pd_var 1) pd_int) (wd_or1 (td_not (td_val (pd_cal (ps := ["value"]) h_is_headed (hr.mono (by omega)) tk (LenA.cons LenA.nil) (ad_cons (pd_var 0) ad_nil))))))) (sd_one (sd_ret (pd_op op_addA op2_add (pd_gint fx.i_MOST_CONTENT) pd_int))) sd_nil) (sd_cons (sd_if (td_cmp (c_eqX hr.units) o_eqX (by first | exact nobehind _ (by decide) (by decide) | rfl) (pd_ix ix_seq op2_ix (pd_var 0) pd_int) pd_str) (sd_one (sd_ret (pd_if (td_val (pd_cal (ps := ["value"]) h_is_alone (hr.mono (by omega)) tk (LenA.cons LenA.nil) (ad_cons (pd_var 0) ad_nil))) pd_int (pd_op op_addA op2_add (pd_gint fx.i_MOST_CONTENT) pd_int)))) sd_nil) (sd_cons (sd_if (td_cmp (c_eqX hr.units) o_eqX (by first | exact nobehind _ (by decide) (by decide) | rfl) (pd_ix ix_seq op2_ix (pd_var 0) pd_int) pd_str) (sd_one (sd_ret (pd_if (td_val (pd_cal (ps := ["value"]) h_is_named (hr.mono (by omega)) tk (LenA.cons LenA.nil) (ad_cons (pd_var 0) ad_nil))) pd_int (pd_op op_addA op2_add (pd_gint fx.i_MOST_CONTENT) pd_int)))) sd_nil) (sd_cons (sd_if (td_cmp (c_eqX hr.units) o_eqX (by first | exact nobehind _ (by decide) (by decide) | rfl) (pd_ix ix_seq op2_ix (pd_var 0) pd_int) pd_str) (sd_one (sd_ret (pd_if (td_cmp (c_eqX hr.units) o_eqX (by first | exact nobehind _ (by decide) (by decide) | rfl) (pd_callB call_len opn_len fx.n_len (by decide +kernel) (ad_cons (pd_var 0) ad_nil)) pd_int) (pd_op op_addA op2_add pd_int (pd_cal (ps := ["value", "deep"]) h_path_nodes (hr.mono (by omega)) tk (LenA.cons (LenA.cons LenA.nil)) (ad_cons (pd_ix ix_seq op2_ix (pd_var 0) pd_int) (ad_cons (pd_op op_sub o_sub (pd_var 1) pd_int) ad_nil)))) (pd_op op_addA op2_add (pd_gint fx.i_MOST_CONTENT) pd_int)))) sd_nil) (sd_cons (sd_set (i := 2) sc_filter_nodes.nd rfl (by first | exact .inl rfl | exact .inr rfl) (pd_mapC (ks := ["not", "and", "or"]) (xs := [.int 2, .int 3, .int 3]) (pps_cons pe_str pe_int (pps_cons pe_str pe_int (pps_cons pe_str pe_int pps_nil))) (fun _ _ _ => (.cons (.int _) (.cons (.int _) (.cons (.int _) .nil)))) rfl rfl (by decide))) (sd_cons (sd_if (td_w (wd_or (td_cmp (op_dNotIn hr.units) o_dIn (by first | exact nobehind _ (by decide) (by decide) | rfl) (pd_ix ix_seq op2_ix (pd_var 0) pd_int) (pd_var 2)) (wd_or1 (td_cmp (c_neX hr.units) o_neX (by first | exact nobehind _ (by decide) (by decide) | rfl) (pd_callB call_len opn_len fx.n_len (by decide +kernel) (ad_cons (pd_var 0) ad_nil)) (pd_dIx hr.units (pd_var 2) (pd_ix ix_seq op2_ix (pd_var 0) pd_int)))))) (sd_one (sd_ret (pd_op op_addA op2_add (pd_gint fx.i_MOST_CONTENT) pd_int))) sd_nil) (sd_one (sd_ret (pd_op op_addA op2_add pd_int (pd_callB (cr_sum rfl) opn_sum fx.n_sum (by decide +kernel) (ad_cons (pd_lc rfl sc_filter_nodes.nd (id_any (pd_slice sl_any ops_sl (pd_var 0) (od_some pd_int) od_none)) (blkOk_by (own := [("part", 3)]) (by kernel_rfl)) (fun p => (gd_name (i := 3) sc_filter_nodes.nd rfl (by first | exact .inl rfl | exact .inr rfl))) (fun p => tsd_nil) (fun p => (pd_cal (ps := ["value", "deep"]) h_filter_nodes (hr.mono (by omega)) L2.takes0 (LenA.cons (LenA.cons LenA.nil)) (ad_cons (pd_var 3) (ad_cons (pd_op op_sub o_sub (pd_var 1) pd_int) ad_nil))))) ad_nil)))))))))))) (fun _ _ _ _ _ _ us hl => match us, hl with | [_, _], _ => rfl)
def f_filter_nodes : Nat → List D → Om → Rs D
  | 0 => fun _ _ => .bad
  | d + 1 => runB 4 (g_filter_nodes (f_filter_nodes d) (runB 4 (g_path_nodes (f_filter_nodes d))))
theorem c_filter_nodes (fx : Fx w K mg base) {P : PP} (h_is_alone : Cal Pr w K mg base "is_alone" 1 ["value"] P f_is_alone) (h_is_headed : Cal Pr w K mg base "is_headed" 1 ["value"] P f_is_headed) (h_is_named : Cal Pr w K mg base "is_named" 2 ["value"] P f_is_named) (h_is_tuple_of : Cal Pr w K mg base "is_tuple_of" 1 ["value", "size"] P f_is_tuple_of) : ∀ d, Cal Pr w K mg base "filter_nodes" (2 + 2 * d) ["value", "deep"] P (f_filter_nodes d)
  | 0 => by
    obtain ⟨fd, F⟩ := fx.f_filter_nodes
    exact cal_bad F fx.m_filter_nodes (fun _ _ _ _ _ _ us hl => match us, hl with | [_, _], _ => rfl)
  | d + 1 => (r_filter_nodes fx (Nat.le_add_right _ _) (c_filter_nodes fx h_is_alone h_is_headed h_is_named h_is_tuple_of d) (r_path_nodes fx (Nat.le_add_right _ _) (c_filter_nodes fx h_is_alone h_is_headed h_is_named h_is_tuple_of d) h_is_tuple_of) h_is_alone h_is_headed h_is_named).up (by omega)
def g_is_filter : EvS := (sRet (eOp2 gLeA (eCall (f_filter_nodes 14) (aCons (eVar 0) (aCons (eC (.int 12)) aNil))) (eC (.int 60))))
def f_is_filter : List D → Om → Rs D := runB 1 g_is_filter
theorem r_is_filter (fx : Fx w K mg base) {P : PP} (h_filter_nodes : Cal Pr w K mg base "filter_nodes" 30 ["value", "deep"] P (f_filter_nodes 14)) : Cal Pr w K mg base "is_filter" 31 ["value"] P (f_is_filter) := by
  obtain ⟨fd, F⟩ := fx.f_is_filter
  exact cal_of (N := ["value"]) (g := g_is_filter) F fx.m_is_filter sc_is_filter rfl (fun cdv ecd A outer s H E hr tk => (sd_one (sd_ret (pd_cmp c_le o_leA (by first | exact nobehind _ (by decide) (by decide) | rfl) (pd_cal (ps := ["value", "deep"]) h_filter_nodes (hr.mono (by decide)) tk (LenA.cons (LenA.cons LenA.nil)) (ad_cons (pd_var 0) (ad_cons (pd_gint fx.i_MOST_DEEP) ad_nil))) (pd_gint fx.i_MOST_CONTENT))))) (fun _ _ _ _ _ _ us hl => match us, hl with | [_], _ => rfl)
def g_needs_at : EvS := (sSeq (sIf (tB (eOp2 (gInV false) (eOp2 gIx (eVar 0) (eC (.int 0))) (eOpN gTup (aCons (eC (.str "not")) (aCons (eC (.str "and")) (aCons (eC (.str "or")) aNil)))))) (sRet (eSl gSl (eVar 0) (oSome (eC (.int 1))) oNone)) sNext) (sSeq (sIf (tAnd (tB (eOp2 gEqX (eOp2 gIx (eVar 0) (eC (.int 0))) (eC (.str "some")))) (tB (eOp2 gNeX (eOp2 gIx (eVar 0) (eC (.int 1))) (eOpN gTup aNil)))) (sRet (eOpN gTup (aCons (eOp2 gIx (eOp2 gIx (eOp2 gIx (eVar 0) (eC (.int 1))) (eC (.int 0))) (eC (.int 1))) (aCons (eOpN gTup (aCons (eC (.str "some")) (aCons (eSl gSl (eOp2 gIx (eVar 0) (eC (.int 1))) (oSome (eC (.int 1))) oNone) aNil))) aNil)))) sNext) (sRet (eOpN gTup aNil))))
def f_needs_at : List D → Om → Rs D := runB 1 g_needs_at
theorem r_needs_at (fx : Fx w K mg base) {P : PP}  : Cal Pr w K mg base "needs_at" 1 ["one"] P (f_needs_at) := by
  obtain ⟨fd, F⟩ := fx.f_needs_at
  exact cal_of (N := ["one"]) (g := g_needs_at) F fx.m_needs_at sc_needs_at rfl (fun cdv ecd A outer s H E hr tk => (sd_cons (sd_if (td_cmp op_in_seq o_inV (by first | exact nobehind _ (by decide) (by decide) | rfl) (pd_ix ix_seq op2_ix (pd_var 0) pd_int) (pd_tup (ad_cons pd_str (ad_cons pd_str (ad_cons pd_str ad_nil))))) (sd_one (sd_ret (pd_slice sl_any ops_sl (pd_var 0) (od_some pd_int) od_none))) sd_nil) (sd_cons (sd_if (td_w (wd_and (td_cmp (c_eqX hr.units) o_eqX (by first | exact nobehind _ (by decide) (by decide) | rfl) (pd_ix ix_seq op2_ix (pd_var 0) pd_int) pd_str) (wd_and1 (td_cmp (c_neX hr.units) o_neX (by first | exact nobehind _ (by decide) (by decide) | rfl) (pd_ix ix_seq op2_ix (pd_var 0) pd_int) (pd_tup ad_nil))))) (sd_one (sd_ret (pd_tup (ad_cons (pd_ix ix_seq op2_ix (pd_ix ix_seq op2_ix (pd_ix ix_seq op2_ix (pd_var 0) pd_int) pd_int) pd_int) (ad_cons (pd_tup (ad_cons pd_str (ad_cons (pd_slice sl_any ops_sl (pd_ix ix_seq op2_ix (pd_var 0) pd_int) (od_some pd_int) od_none) ad_nil))) ad_nil))))) sd_nil) (sd_one (sd_ret (pd_tup ad_nil)))))) (fun _ _ _ _ _ _ us hl => match us, hl with | [_], _ => rfl)
def g_needs_of : EvS := (sSeq (sIf (tNot (tB (eCall f_is_filter (aCons (eVar 0) aNil)))) (sRaise0 "BadFilter") sNext) (sRet (eCall f_needs_at (aCons (eVar 0) aNil))))
def f_needs_of : List D → Om → Rs D := runB 1 g_needs_of
theorem r_needs_of (fx : Fx w K mg base) {P : PP} (h_is_filter : Cal Pr w K mg base "is_filter" 31 ["value"] P f_is_filter) (h_needs_at : Cal Pr w K mg base "needs_at" 1 ["one"] P f_needs_at) : Cal Pr w K mg base "needs_of" 32 ["one"] P (f_needs_of) := by
  obtain ⟨fd, F⟩ := fx.f_needs_of
  exact cal_of (N := ["one"]) (g := g_needs_of) F fx.m_needs_of sc_needs_of rfl (fun cdv ecd A outer s H E hr tk => (sd_cons (sd_if (td_not (td_val (pd_cal (ps := ["value"]) h_is_filter (hr.mono (by decide)) tk (LenA.cons LenA.nil) (ad_cons (pd_var 0) ad_nil)))) (sd_one (sd_raise0 rfl tk fx.x_BadFilter fx.m_BadFilter fx.k_BadFilter (raises_own fx.rs_BadFilter.1 fx.rs_BadFilter.2))) sd_nil) (sd_one (sd_ret (pd_cal (ps := ["one"]) h_needs_at (hr.mono (by decide)) tk (LenA.cons LenA.nil) (ad_cons (pd_var 0) ad_nil)))))) (fun _ _ _ _ _ _ us hl => match us, hl with | [_], _ => rfl)
def g_gathered (F_gathered : List D → Om → Rs D) : EvS := (sSeq (sIf (tInAcc 1 (eVar 0)) sRetN sNext) (sSeq (sFor (iAny (eCall f_needs_at (aCons (eVar 0) aNil))) (gdName 2) (sExpr (eCall F_gathered (aCons (eVar 2) (aCons (eVar 1) aNil))))) (sAppA 1 (eVar 0))))
theorem r_gathered (fx : Fx w K mg base) {k : Nat} {F_gathered : List D → Om → Rs D} (hk : 1 ≤ k) (h_gathered : Cal Pr w K mg base "gathered" k ["one", "found"] (AccP K) F_gathered)  (h_needs_at : Cal Pr w K mg base "needs_at" 1 ["one"] (AccP K) f_needs_at) : Cal Pr w K mg base "gathered" (k + 1) ["one", "found"] (AccP K) (runB 3 (g_gathered F_gathered)) := by
  obtain ⟨fd, F⟩ := fx.f_gathered
  exact cal_of (N := ["one", "found", "need"]) (g := g_gathered F_gathered) F fx.m_gathered sc_gathered rfl (fun cdv ecd A outer s H E hr tk => (sd_cons (sd_if (td_inAcc (i := 1) (units65 hr) rfl (pd_var 0)) (sd_one sd_retN) sd_nil) (sd_cons (sd_for (passes_of rfl) rfl (id_any (pd_cal (ps := ["one"]) h_needs_at (hr.mono (by omega)) tk (LenA.cons LenA.nil) (ad_cons (pd_var 0) ad_nil))) (gd_name (i := 2) sc_gathered.nd rfl (by first | exact .inl rfl | exact .inr rfl)) (sd_one (sd_expr (pd_cal (ps := ["one", "found"]) h_gathered (hr.mono (by omega)) tk (LenA.cons (LenA.cons LenA.nil)) (ad_cons (pd_var 2) (ad_cons (pd_var 1) ad_nil)))))) (sd_one (sd_appA (i := 1) rfl (pd_var 0)))))) (fun _ _ _ _ _ _ us hl => match us, hl with | [_, _], _ => rfl)
def f_gathered : Nat → List D → Om → Rs D
  | 0 => fun _ _ => .bad
  | d + 1 => runB 3 (g_gathered (f_gathered d))
theorem c_gathered (fx : Fx w K mg base) (h_needs_at : Cal Pr w K mg base "needs_at" 1 ["one"] (AccP K) f_needs_at) : ∀ d, Cal Pr w K mg base "gathered" (1 + 1 * d) ["one", "found"] (AccP K) (f_gathered d)
  | 0 => by
    obtain ⟨fd, F⟩ := fx.f_gathered
    exact cal_bad F fx.m_gathered (fun _ _ _ _ _ _ us hl => match us, hl with | [_, _], _ => rfl)
  | d + 1 => (r_gathered fx (Nat.le_add_right _ _) (c_gathered fx h_needs_at d)  h_needs_at).up (by omega)
def g_are_filters : EvS := (sRet (eAnd (eOpN (gIsc kb) (aCons (eVar 0) (aCons (eC (.ty "tuple")) aNil))) (eAnd (eChain gLeA gLeA (eC (.int 1)) (eOpN gLen (aCons (eVar 0) aNil)) (eC (.int 12))) (eOpN gAll (aCons (eComp (iAny (eVar 0)) (gdName 1) tTrue (eCall f_is_filter (aCons (eVar 1) aNil)) [1]) aNil)))))
def f_are_filters : List D → Om → Rs D := runB 2 g_are_filters
theorem r_are_filters (fx : Fx w K mg base) {P : PP} (h_is_filter : Cal Pr w K mg base "is_filter" 31 ["value"] P f_is_filter) : Cal Pr w K mg base "are_filters" 32 ["value"] P (f_are_filters) := by
  obtain ⟨fd, F⟩ := fx.f_are_filters
  exact cal_of (N := ["value", "one"]) (g := g_are_filters) F fx.m_are_filters sc_are_filters rfl (fun cdv ecd A outer s H E hr tk => (sd_one (sd_ret (pd_and (pd_callB c_isc (o_isc fx.kb fx.xc kb_cs) fx.n_isinstance (by decide +kernel) (ad_cons (pd_var 0) (ad_cons (pd_ty fx.n_tuple (by decide +kernel)) ad_nil))) (pd_and (pd_chain c_le c_le o_leA o_leA pd_int (pd_callB call_len opn_len fx.n_len (by decide +kernel) (ad_cons (pd_var 0) ad_nil)) (pd_gint fx.i_MOST_ASKS)) (pd_one (pd_callB (cr_all rfl) opn_all fx.n_all (by decide +kernel) (ad_cons (pd_lc rfl sc_are_filters.nd (id_any (pd_var 0)) (blkOk_by (own := [("one", 1)]) (by kernel_rfl)) (fun p => (gd_name (i := 1) sc_are_filters.nd rfl (by first | exact .inl rfl | exact .inr rfl))) (fun p => tsd_nil) (fun p => (pd_cal (ps := ["value"]) h_is_filter (hr.mono (by decide)) L2.takes0 (LenA.cons LenA.nil) (ad_cons (pd_var 1) ad_nil)))) ad_nil)))))))) (fun _ _ _ _ _ _ us hl => match us, hl with | [_], _ => rfl)
def g_demands_of : EvS := (sSeq (sIf (tNot (tB (eCall f_are_filters (aCons (eVar 0) aNil)))) (sRaise0 "BadFilter") sNext) (sAcc 1 (sSeq (sFor (iAny (eVar 0)) (gdName 2) (sExpr (eCall (f_gathered 64) (aCons (eVar 2) (aCons (eVar 1) aNil))))) (sRet (eTupA 1)))))
def f_demands_of : List D → Om → Rs D := runB 3 g_demands_of
theorem r_demands_of (fx : Fx w K mg base) {P : PP} (h_are_filters : Cal Pr w K mg base "are_filters" 32 ["value"] P f_are_filters) (h_gathered : Cal Pr w K mg base "gathered" 65 ["one", "found"] (AccP K) (f_gathered 64)) : Cal Pr w K mg base "demands_of" 66 ["filters"] P (f_demands_of) := by
  obtain ⟨fd, F⟩ := fx.f_demands_of
  exact cal_of (N := ["filters", "found", "one"]) (g := g_demands_of) F fx.m_demands_of sc_demands_of rfl (fun cdv ecd A outer s H E hr tk => (sd_cons (sd_if (td_not (td_val (pd_cal (ps := ["value"]) h_are_filters (hr.mono (by decide)) tk (LenA.cons LenA.nil) (ad_cons (pd_var 0) ad_nil)))) (sd_one (sd_raise0 rfl tk fx.x_BadFilter fx.m_BadFilter fx.k_BadFilter (raises_own fx.rs_BadFilter.1 fx.rs_BadFilter.2))) sd_nil) (sd_acc (i := 1) sc_demands_of.nd rfl (by first | exact .inl rfl | exact .inr rfl) (sd_cons (sd_for (passes_of rfl) rfl (id_any (pd_var 0)) (gd_name (i := 2) sc_demands_of.nd rfl (by first | exact .inl rfl | exact .inr rfl)) (sd_one (sd_expr (pd_cal (ps := ["one", "found"]) h_gathered (hr.mono (by decide)) tk (LenA.cons (LenA.cons LenA.nil)) (ad_cons (pd_var 2) (ad_cons (pd_var 1) ad_nil)))))) (sd_one (sd_ret (pd_tupA (i := 1) rfl fx.n_tuple))))))) (fun _ _ _ _ _ _ us hl => match us, hl with | [_], _ => rfl)
def g_is_demands : EvS := (sSeq (sIf (tOr (tNot (tB (eOpN (gIsc kb) (aCons (eVar 0) (aCons (eC (.ty "tuple")) aNil))))) (tNot (tB (eChain gLeA gLeA (eC (.int 1)) (eOpN gLen (aCons (eVar 0) aNil)) (eC (.int 800)))))) (sRet (eC (.bl false))) sNext) (sSeq (sIf (tNot (tB (eOpN gAll (aCons (eComp (iAny (eVar 0)) (gdName 1) tTrue (eCall f_is_filter (aCons (eVar 1) aNil)) [1]) aNil)))) (sRet (eC (.bl false))) sNext) (sSeq (sFor (iEnumA (aCons (eVar 0) aNil)) (gdTup2 2 1) (sSeq (sSet 3 (eSl gSl (eVar 0) oNone (oSome (eVar 2)))) (sIf (tOr (tB (eOp2 (gInA false) (eVar 1) (eVar 3))) (tNot (tB (eOpN gAll (aCons (eComp (iAny (eCall f_needs_at (aCons (eVar 1) aNil))) (gdName 4) tTrue (eOp2 (gInA false) (eVar 4) (eVar 3)) [4]) aNil))))) (sRet (eC (.bl false))) sNext))) (sRet (eC (.bl true))))))
def f_is_demands : List D → Om → Rs D := runB 5 g_is_demands
theorem r_is_demands (fx : Fx w K mg base) {P : PP} (h_is_filter : Cal Pr w K mg base "is_filter" 31 ["value"] P f_is_filter) (h_needs_at : Cal Pr w K mg base "needs_at" 1 ["one"] P f_needs_at) : Cal Pr w K mg base "is_demands" 32 ["value"] P (f_is_demands) := by
  obtain ⟨fd, F⟩ := fx.f_is_demands
  exact cal_of (N := ["value", "one", "number", "ahead", "need"]) (g := g_is_demands) F fx.m_is_demands sc_is_demands rfl (fun cdv ecd A outer s H E hr tk => (sd_cons (sd_if (td_w (wd_or (td_not (td_val (pd_callB c_isc (o_isc fx.kb fx.xc kb_cs) fx.n_isinstance (by decide +kernel) (ad_cons (pd_var 0) (ad_cons (pd_ty fx.n_tuple (by decide +kernel)) ad_nil))))) (wd_or1 (td_not (td_chain c_le c_le o_leA o_leA pd_int (pd_callB call_len opn_len fx.n_len (by decide +kernel) (ad_cons (pd_var 0) ad_nil)) (pd_gint fx.i_MOST_DEMANDS)))))) (sd_one (sd_ret pd_bl)) sd_nil) (sd_cons (sd_if (td_not (td_val (pd_callB (cr_all rfl) opn_all fx.n_all (by decide +kernel) (ad_cons (pd_lc rfl sc_is_demands.nd (id_any (pd_var 0)) (blkOk_by (own := [("one", 1)]) (by kernel_rfl)) (fun p => (gd_name (i := 1) sc_is_demands.nd rfl (by first | exact .inl rfl | exact .inr rfl))) (fun p => tsd_nil) (fun p => (pd_cal (ps := ["value"]) h_is_filter (hr.mono (by decide)) L2.takes0 (LenA.cons LenA.nil) (ad_cons (pd_var 1) ad_nil)))) ad_nil)))) (sd_one (sd_ret pd_bl)) sd_nil) (sd_cons (sd_for (passes_of rfl) rfl (id_enumA fx.n_enumerate (ad_cons (pd_var 0) ad_nil)) (gd_tup2 (i := 2) (j := 1) rfl sc_is_demands.nd rfl rfl (by first | exact .inl rfl | exact .inr rfl) (by first | exact .inl rfl | exact .inr rfl)) (sd_cons (sd_set (i := 3) sc_is_demands.nd rfl (by first | exact .inl rfl | exact .inr rfl) (pd_slice sl_any ops_sl (pd_var 0) od_none (od_some (pd_var 2)))) (sd_one (sd_if (td_w (wd_or (td_cmp (op_inA (units65 hr)) o_inA (by first | exact nobehind _ (by decide) (by decide) | rfl) (pd_var 1) (pd_var 3)) (wd_or1 (td_not (td_val (pd_callB (cr_all rfl) opn_all fx.n_all (by decide +kernel) (ad_cons (pd_lc rfl sc_is_demands.nd (id_any (pd_cal (ps := ["one"]) h_needs_at (hr.mono (by decide)) tk (LenA.cons LenA.nil) (ad_cons (pd_var 1) ad_nil))) (blkOk_by (own := [("need", 4)]) (by kernel_rfl)) (fun p => (gd_name (i := 4) sc_is_demands.nd rfl (by first | exact .inl rfl | exact .inr rfl))) (fun p => tsd_nil) (fun p => (pd_cmp (op_inA (units65 hr)) o_inA (by first | exact nobehind _ (by decide) (by decide) | rfl) (pd_var 4) (pd_var 3)))) ad_nil))))))) (sd_one (sd_ret pd_bl)) sd_nil)))) (sd_one (sd_ret pd_bl)))))) (fun _ _ _ _ _ _ us hl => match us, hl with | [_], _ => rfl)
theorem r_w_blended (fx : Fx w K mg base)  : Cal Pr w K mg base "_law_blended" 1 ["state"] (PD (TT K)) (runB 6 gBlended) := by
  obtain ⟨fd, F⟩ := fx.f_w_blended
  exact cal_of (N := ["state", "turn", "found", "prime", "blend", "cell"]) (g := gBlended) F fx.m_w_blended sc_w_blended rfl (fun cdv ecd A outer s H E hr tk => (sd_cons (sd_par (i := 1) (j := 2) rfl sc_w_blended.nd rfl rfl (by decide) rfl rfl (ad_cons (pd_op op_addA op2_add (pd_stI (f := Om.turn) (i := 0) (units1 hr.units) dkv_turn) pd_int) (ad_cons pd_int ad_nil))) (sd_cons (sd_stI (f := setT) (i := 0) (units1 hr.units) dkv_putT (fun _ _ => rfl) (fun _ _ => rfl) (pd_var 1)) (sd_cons (sd_for (passes_of rfl) rfl (id_any (pd_lst (ad_cons pd_int (ad_cons pd_int (ad_cons pd_int ad_nil))))) (gd_name (i := 3) sc_w_blended.nd rfl (by first | exact .inl rfl | exact .inr rfl)) (sd_cons (sd_set (i := 4) sc_w_blended.nd rfl (by first | exact .inl rfl | exact .inr rfl) (pd_op op_addA op2_add (pd_op c_mul o_mulA pd_int (pd_var 1)) (pd_op op_fdiv o_div (pd_var 3) pd_int))) (sd_cons (sd_forC (i := 0) (passes_of rfl) rfl hr.units (gd_name (i := 5) sc_w_blended.nd rfl (by first | exact .inl rfl | exact .inr rfl)) (sd_one (sd_set (i := 4) sc_w_blended.nd rfl (by first | exact .inl rfl | exact .inr rfl) (pd_op op_mod o_mod (pd_callTy c_int o_int fx.n_int (by decide +kernel) (ad_cons (pd_op op_addA op2_add (pd_op op_addA op2_add (pd_op c_mul o_mulA (pd_var 4) pd_int) (pd_var 5)) (pd_var 1)) ad_nil)) (pd_var 3))))) (sd_one (sd_set (i := 2) sc_w_blended.nd rfl (by first | exact .inl rfl | exact .inr rfl) (pd_op op_addA op2_add (pd_op c_mul o_mulA (pd_var 2) pd_int) (pd_op op_mod o_mod (pd_callTy c_int o_int fx.n_int (by decide +kernel) (ad_cons (pd_op op_pow o_pow (pd_var 4) pd_int) ad_nil)) (pd_var 3)))))))) (sd_one (sd_ret (pd_var 2))))))) (fun _ _ _ _ _ _ us hl => match us, hl with | [_], _ => rfl)
theorem r_w_draw (fx : Fx w K mg base) (h_w_blended : Cal Pr w K mg base "_law_blended" 1 ["state"] (PD (TT K)) blendF) : Cal Pr w K mg base "_law_draw" 2 ["state", "size_here"] (PD (TT K)) (runB 3 (gDraw blendF)) := by
  obtain ⟨fd, F⟩ := fx.f_w_draw
  exact cal_of (N := ["state", "size_here", "found"]) (g := (gDraw blendF)) F fx.m_w_draw sc_w_draw rfl (fun cdv ecd A outer s H E hr tk => (sd_cons (sd_if (td_cmp (c_eq hr.units) o_eq (by first | exact nobehind _ (by decide) (by decide) | rfl) (pd_stI (f := Om.left) (i := 0) (units1 hr.units) dkv_left) pd_int) (sd_one (sd_stI (f := setL) (i := 0) (units1 hr.units) dkv_putL (fun _ _ => rfl) (fun _ _ => rfl) (pd_if (td_great (i := 0) hr.units) (pd_pop (i := 0) hr.units) (pd_cal (ps := ["state"]) h_w_blended (hr.mono (by decide)) tk (LenA.cons LenA.nil) (ad_cons (pd_var 0) ad_nil))))) sd_nil) (sd_cons (sd_set (i := 2) sc_w_draw.nd rfl (by first | exact .inl rfl | exact .inr rfl) (pd_op op_mod o_mod (pd_callTy c_int o_int fx.n_int (by decide +kernel) (ad_cons (pd_stI (f := Om.left) (i := 0) (units1 hr.units) dkv_left) ad_nil)) (pd_var 1))) (sd_cons (sd_stI (f := setL) (i := 0) (units1 hr.units) dkv_putL (fun _ _ => rfl) (fun _ _ => rfl) (pd_op op_fdiv o_div (pd_stI (f := Om.left) (i := 0) (units1 hr.units) dkv_left) (pd_var 1))) (sd_one (sd_ret (pd_var 2))))))) (fun _ _ _ _ _ _ us hl => match us, hl with | [_, _], _ => rfl)
theorem r_w_pick (fx : Fx w K mg base) (h_w_draw : Cal Pr w K mg base "_law_draw" 2 ["state", "size_here"] (PD (TT K)) drawF) : Cal Pr w K mg base "_law_pick" 3 ["state", "several"] (PD (TT K)) (runB 2 (gPick drawF)) := by
  obtain ⟨fd, F⟩ := fx.f_w_pick
  exact cal_of (N := ["state", "several"]) (g := (gPick drawF)) F fx.m_w_pick sc_w_pick rfl (fun cdv ecd A outer s H E hr tk => (sd_one (sd_ret (pd_ix ix_seq op2_ix (pd_var 1) (pd_cal (ps := ["state", "size_here"]) h_w_draw (hr.mono (by decide)) tk (LenA.cons (LenA.cons LenA.nil)) (ad_cons (pd_var 0) (ad_cons (pd_callB call_len opn_len fx.n_len (by decide +kernel) (ad_cons (pd_var 1) ad_nil)) ad_nil))))))) (fun _ _ _ _ _ _ us hl => match us, hl with | [_, _], _ => rfl)
def g_w_is_truth : EvS := (sRet (eIf (tB (eVar 1)) (eOp2 gIsB (eVar 0) (eC (.bl true))) (eOp2 gIsB (eVar 0) (eC (.bl false)))))
def f_w_is_truth : List D → Om → Rs D := runB 2 g_w_is_truth
theorem r_w_is_truth (fx : Fx w K mg base)  : Cal Pr w K mg base "_law_is_truth" 1 ["found", "due"] (PD (TT K)) (f_w_is_truth) := by
  obtain ⟨fd, F⟩ := fx.f_w_is_truth
  exact cal_of (N := ["found", "due"]) (g := g_w_is_truth) F fx.m_w_is_truth sc_w_is_truth rfl (fun cdv ecd A outer s H E hr tk => (sd_one (sd_ret (pd_if (td_val (pd_var 1)) (pd_cmp op_isV o_isB (by first | exact nobehind _ (by decide) (by decide) | rfl) (pd_var 0) pd_bl) (pd_cmp op_isV o_isB (by first | exact nobehind _ (by decide) (by decide) | rfl) (pd_var 0) pd_bl))))) (fun _ _ _ _ _ _ us hl => match us, hl with | [_, _], _ => rfl)
def g_w_is_whole : EvS := (sRet (eAnd (eOpN (gIsc kb) (aCons (eVar 0) (aCons (eC (.ty "int")) aNil))) (eNot (eOpN (gIsc kb) (aCons (eVar 0) (aCons (eC (.ty "bool")) aNil))))))
def f_w_is_whole : List D → Om → Rs D := runB 1 g_w_is_whole
theorem r_w_is_whole (fx : Fx w K mg base)  : Cal Pr w K mg base "_law_is_whole" 1 ["item"] (PD (TT K)) (f_w_is_whole) := by
  obtain ⟨fd, F⟩ := fx.f_w_is_whole
  exact cal_of (N := ["item"]) (g := g_w_is_whole) F fx.m_w_is_whole sc_w_is_whole rfl (fun cdv ecd A outer s H E hr tk => (sd_one (sd_ret (pd_and (pd_callB c_isc (o_isc fx.kb fx.xc kb_cs) fx.n_isinstance (by decide +kernel) (ad_cons (pd_var 0) (ad_cons (pd_ty fx.n_int (by decide +kernel)) ad_nil))) (pd_one (pd_not (pd_callB c_isc (o_isc fx.kb fx.xc kb_cs) fx.n_isinstance (by decide +kernel) (ad_cons (pd_var 0) (ad_cons (pd_ty fx.n_bool (by decide +kernel)) ad_nil))))))))) (fun _ _ _ _ _ _ us hl => match us, hl with | [_], _ => rfl)
def g_w_odd : EvS := (sRet (eCall pickF (aCons (eVar 0) (aCons (eOpN gLst (aCons (eC .non) (aCons (eC (.int 0)) (aCons (eOp1 gNeg (eC (.int 1))) (aCons (eC (.bl true)) (aCons (eC (.str "1")) (aCons (eC (.str "")) (aCons (eOpN gTup aNil) (aCons (eOpN gLst aNil) (aCons (eC (.map [] [])) (aCons (eOpN gTup (aCons (eC (.int 1)) aNil)) (aCons (eOpN gTup (aCons (eOpN gTup (aCons (eC (.int 0)) aNil)) aNil)) (aCons (eOpN gTup (aCons (eC (.str "a")) aNil)) (aCons (eOpN gTup (aCons (eC (.str "a")) (aCons (eC (.str "a")) aNil))) (aCons (eOp2 gPow (eC (.int 10)) (eC (.int 18))) aNil))))))))))))))) aNil))))
def f_w_odd : List D → Om → Rs D := runB 1 g_w_odd
theorem r_w_odd (fx : Fx w K mg base) (h_w_pick : Cal Pr w K mg base "_law_pick" 3 ["state", "several"] (PD (TT K)) pickF) : Cal Pr w K mg base "_law_odd" 4 ["state"] (PD (TT K)) (f_w_odd) := by
  obtain ⟨fd, F⟩ := fx.f_w_odd
  exact cal_of (N := ["state"]) (g := g_w_odd) F fx.m_w_odd sc_w_odd rfl (fun cdv ecd A outer s H E hr tk => (sd_one (sd_ret (pd_cal (ps := ["state", "several"]) h_w_pick (hr.mono (by decide)) tk (LenA.cons (LenA.cons LenA.nil)) (ad_cons (pd_var 0) (ad_cons (pd_lst (ad_cons pd_non (ad_cons pd_int (ad_cons (pd_un un_neg o_neg pd_int) (ad_cons pd_bl (ad_cons pd_str (ad_cons pd_str (ad_cons (pd_tup ad_nil) (ad_cons (pd_lst ad_nil) (ad_cons pd_map0 (ad_cons (pd_tup (ad_cons pd_int ad_nil)) (ad_cons (pd_tup (ad_cons (pd_tup (ad_cons pd_int ad_nil)) ad_nil)) (ad_cons (pd_tup (ad_cons pd_str ad_nil)) (ad_cons (pd_tup (ad_cons pd_str (ad_cons pd_str ad_nil))) (ad_cons (pd_op op_pow o_pow pd_int pd_int) ad_nil))))))))))))))) ad_nil)))))) (fun _ _ _ _ _ _ us hl => match us, hl with | [_], _ => rfl)
def g_w_bent (F_w_bent : List D → Om → Rs D) : EvS := (sSeq (sIf (tOr (tNot (tB (eOpN (gIsc kb) (aCons (eVar 1) (aCons (eC (.ty "tuple")) aNil))))) (tOr (tB (eOp2 gEqX (eVar 1) (eOpN gTup aNil))) (tB (eOp2 gEqX (eCall drawF (aCons (eVar 0) (aCons (eC (.int 9)) aNil))) (eC (.int 0)))))) (sRet (eCall f_w_odd (aCons (eVar 0) aNil))) sNext) (sSeq (sPar2 2 3 (aCons (eCall drawF (aCons (eVar 0) (aCons (eOpN gLen (aCons (eVar 1) aNil)) aNil))) (aCons (eCall drawF (aCons (eVar 0) (aCons (eC (.int 8)) aNil))) aNil))) (sSeq (sIf (tB (eOp2 gLt (eVar 3) (eC (.int 4)))) (sRet (eOp2 gAdd (eOp2 gAdd (eSl gSl (eVar 1) oNone (oSome (eVar 2))) (eOpN gTup (aCons (eCall F_w_bent (aCons (eVar 0) (aCons (eOp2 gIx (eVar 1) (eVar 2)) aNil))) aNil))) (eSl gSl (eVar 1) (oSome (eOp2 gAdd (eVar 2) (eC (.int 1)))) oNone))) sNext) (sSeq (sIf (tB (eOp2 gEqX (eVar 3) (eC (.int 4)))) (sRet (eOp2 gAdd (eSl gSl (eVar 1) oNone (oSome (eVar 2))) (eSl gSl (eVar 1) (oSome (eOp2 gAdd (eVar 2) (eC (.int 1)))) oNone))) sNext) (sSeq (sIf (tB (eOp2 gEqX (eVar 3) (eC (.int 5)))) (sRet (eOp2 gAdd (eOp2 gAdd (eSl gSl (eVar 1) oNone (oSome (eVar 2))) (eSl gSl (eVar 1) (oSome (eVar 2)) (oSome (eOp2 gAdd (eVar 2) (eC (.int 1)))))) (eSl gSl (eVar 1) (oSome (eVar 2)) oNone))) sNext) (sSeq (sIf (tAnd (tB (eOp2 gEqX (eVar 3) (eC (.int 6)))) (tB (eCall f_w_is_whole (aCons (eOp2 gIx (eVar 1) (eVar 2)) aNil)))) (sRet (eOp2 gAdd (eOp2 gAdd (eSl gSl (eVar 1) oNone (oSome (eVar 2))) (eOpN gTup (aCons (eOp2 gAdd (eOp2 gIx (eVar 1) (eVar 2)) (eCall pickF (aCons (eVar 0) (aCons (eOpN gLst (aCons (eC (.int 1)) (aCons (eOp1 gNeg (eC (.int 1))) aNil))) aNil)))) aNil))) (eSl gSl (eVar 1) (oSome (eOp2 gAdd (eVar 2) (eC (.int 1)))) oNone))) sNext) (sRet (eIf (tB (eOp2 gEqX (eVar 3) (eC (.int 7)))) (eRevT (eVar 1)) (eOpN gList (aCons (eVar 1) aNil))))))))))
theorem r_w_bent (fx : Fx w K mg base) {k : Nat} {F_w_bent : List D → Om → Rs D} (hk : 4 ≤ k) (h_w_bent : Cal Pr w K mg base "_law_bent" k ["state", "item"] (PD (TT K)) F_w_bent)  (h_w_draw : Cal Pr w K mg base "_law_draw" 2 ["state", "size_here"] (PD (TT K)) drawF) (h_w_is_whole : Cal Pr w K mg base "_law_is_whole" 1 ["item"] (PD (TT K)) f_w_is_whole) (h_w_odd : Cal Pr w K mg base "_law_odd" 4 ["state"] (PD (TT K)) f_w_odd) (h_w_pick : Cal Pr w K mg base "_law_pick" 3 ["state", "several"] (PD (TT K)) pickF) : Cal Pr w K mg base "_law_bent" (k + 1) ["state", "item"] (PD (TT K)) (runB 4 (g_w_bent F_w_bent)) := by
  obtain ⟨fd, F⟩ := fx.f_w_bent
  exact cal_of (N := ["state", "item", "at", "way"]) (g := g_w_bent F_w_bent) F fx.m_w_bent sc_w_bent rfl (fun cdv ecd A outer s H E hr tk => (sd_cons (sd_if (td_w (wd_or (td_not (td_val (pd_callB c_isc (o_isc fx.kb fx.xc kb_cs) fx.n_isinstance (by decide +kernel) (ad_cons (pd_var 1) (ad_cons (pd_ty fx.n_tuple (by decide +kernel)) ad_nil))))) (wd_or (td_cmp (c_eqX hr.units) o_eqX (by first | exact nobehind _ (by decide) (by decide) | rfl) (pd_var 1) (pd_tup ad_nil)) (wd_or1 (td_cmp (c_eqX hr.units) o_eqX (by first | exact nobehind _ (by decide) (by decide) | rfl) (pd_cal (ps := ["state", "size_here"]) h_w_draw (hr.mono (by omega)) tk (LenA.cons (LenA.cons LenA.nil)) (ad_cons (pd_var 0) (ad_cons pd_int ad_nil))) pd_int))))) (sd_one (sd_ret (pd_cal (ps := ["state"]) h_w_odd (hr.mono (by omega)) tk (LenA.cons LenA.nil) (ad_cons (pd_var 0) ad_nil)))) sd_nil) (sd_cons (sd_par (i := 2) (j := 3) rfl sc_w_bent.nd rfl rfl (by decide) rfl rfl (ad_cons (pd_cal (ps := ["state", "size_here"]) h_w_draw (hr.mono (by omega)) tk (LenA.cons (LenA.cons LenA.nil)) (ad_cons (pd_var 0) (ad_cons (pd_callB call_len opn_len fx.n_len (by decide +kernel) (ad_cons (pd_var 1) ad_nil)) ad_nil))) (ad_cons (pd_cal (ps := ["state", "size_here"]) h_w_draw (hr.mono (by omega)) tk (LenA.cons (LenA.cons LenA.nil)) (ad_cons (pd_var 0) (ad_cons pd_int ad_nil))) ad_nil))) (sd_cons (sd_if (td_cmp op_lt o_lt (by first | exact nobehind _ (by decide) (by decide) | rfl) (pd_var 3) pd_int) (sd_one (sd_ret (pd_op op_addA op2_add (pd_op op_addA op2_add (pd_slice sl_any ops_sl (pd_var 1) od_none (od_some (pd_var 2))) (pd_tup (ad_cons (pd_cal (ps := ["state", "item"]) h_w_bent (hr.mono (by omega)) tk (LenA.cons (LenA.cons LenA.nil)) (ad_cons (pd_var 0) (ad_cons (pd_ix ix_seq op2_ix (pd_var 1) (pd_var 2)) ad_nil))) ad_nil))) (pd_slice sl_any ops_sl (pd_var 1) (od_some (pd_op op_addA op2_add (pd_var 2) pd_int)) od_none)))) sd_nil) (sd_cons (sd_if (td_cmp (c_eqX hr.units) o_eqX (by first | exact nobehind _ (by decide) (by decide) | rfl) (pd_var 3) pd_int) (sd_one (sd_ret (pd_op op_addA op2_add (pd_slice sl_any ops_sl (pd_var 1) od_none (od_some (pd_var 2))) (pd_slice sl_any ops_sl (pd_var 1) (od_some (pd_op op_addA op2_add (pd_var 2) pd_int)) od_none)))) sd_nil) (sd_cons (sd_if (td_cmp (c_eqX hr.units) o_eqX (by first | exact nobehind _ (by decide) (by decide) | rfl) (pd_var 3) pd_int) (sd_one (sd_ret (pd_op op_addA op2_add (pd_op op_addA op2_add (pd_slice sl_any ops_sl (pd_var 1) od_none (od_some (pd_var 2))) (pd_slice sl_any ops_sl (pd_var 1) (od_some (pd_var 2)) (od_some (pd_op op_addA op2_add (pd_var 2) pd_int)))) (pd_slice sl_any ops_sl (pd_var 1) (od_some (pd_var 2)) od_none)))) sd_nil) (sd_cons (sd_if (td_w (wd_and (td_cmp (c_eqX hr.units) o_eqX (by first | exact nobehind _ (by decide) (by decide) | rfl) (pd_var 3) pd_int) (wd_and1 (td_val (pd_cal (ps := ["item"]) h_w_is_whole (hr.mono (by omega)) tk (LenA.cons LenA.nil) (ad_cons (pd_ix ix_seq op2_ix (pd_var 1) (pd_var 2)) ad_nil)))))) (sd_one (sd_ret (pd_op op_addA op2_add (pd_op op_addA op2_add (pd_slice sl_any ops_sl (pd_var 1) od_none (od_some (pd_var 2))) (pd_tup (ad_cons (pd_op op_addA op2_add (pd_ix ix_seq op2_ix (pd_var 1) (pd_var 2)) (pd_cal (ps := ["state", "several"]) h_w_pick (hr.mono (by omega)) tk (LenA.cons (LenA.cons LenA.nil)) (ad_cons (pd_var 0) (ad_cons (pd_lst (ad_cons pd_int (ad_cons (pd_un un_neg o_neg pd_int) ad_nil))) ad_nil)))) ad_nil))) (pd_slice sl_any ops_sl (pd_var 1) (od_some (pd_op op_addA op2_add (pd_var 2) pd_int)) od_none)))) sd_nil) (sd_one (sd_ret (pd_if (td_cmp (c_eqX hr.units) o_eqX (by first | exact nobehind _ (by decide) (by decide) | rfl) (pd_var 3) pd_int) (pd_revT (pd_var 1)) (pd_callTy call_list_of opn_list fx.n_list (by decide +kernel) (ad_cons (pd_var 1) ad_nil)))))))))))) (fun _ _ _ _ _ _ us hl => match us, hl with | [_, _], _ => rfl)
def f_w_bent : Nat → List D → Om → Rs D
  | 0 => fun _ _ => .bad
  | d + 1 => runB 4 (g_w_bent (f_w_bent d))
theorem c_w_bent (fx : Fx w K mg base) (h_w_draw : Cal Pr w K mg base "_law_draw" 2 ["state", "size_here"] (PD (TT K)) drawF) (h_w_is_whole : Cal Pr w K mg base "_law_is_whole" 1 ["item"] (PD (TT K)) f_w_is_whole) (h_w_odd : Cal Pr w K mg base "_law_odd" 4 ["state"] (PD (TT K)) f_w_odd) (h_w_pick : Cal Pr w K mg base "_law_pick" 3 ["state", "several"] (PD (TT K)) pickF) : ∀ d, Cal Pr w K mg base "_law_bent" (4 + 1 * d) ["state", "item"] (PD (TT K)) (f_w_bent d)
  | 0 => by
    obtain ⟨fd, F⟩ := fx.f_w_bent
    exact cal_bad F fx.m_w_bent (fun _ _ _ _ _ _ us hl => match us, hl with | [_, _], _ => rfl)
  | d + 1 => (r_w_bent fx (Nat.le_add_right _ _) (c_w_bent fx h_w_draw h_w_is_whole h_w_odd h_w_pick d)  h_w_draw h_w_is_whole h_w_odd h_w_pick).up (by omega)
def g_w_tr_path (F_w_tr_filter : List D → Om → Rs D) : EvS := (sSeq (sParVN 2 3 (eOpN gLst (aCons (eC (.str "child")) (aCons (eC (.str "child")) (aCons (eC (.str "below")) (aCons (eC (.str "self")) aNil)))))) (sSeq (sFor (iRange (aCons (eCall drawF (aCons (eVar 0) (aCons (eC (.int 4)) aNil))) aNil)) (gdName 4) (sApp 3 (eOpN gTup (aCons (eCall pickF (aCons (eVar 0) (aCons (eVar 2) aNil))) (aCons (eIf (tAnd (tB (eOp2 gGt (eVar 1) (eC (.int 0)))) (tB (eOp2 gEqX (eCall drawF (aCons (eVar 0) (aCons (eC (.int 3)) aNil))) (eC (.int 0))))) (eCall F_w_tr_filter (aCons (eVar 0) (aCons (eOp2 gSub (eVar 1) (eC (.int 1))) aNil))) (eCall F_w_tr_filter (aCons (eVar 0) (aCons (eC (.int 0)) aNil)))) aNil))))) (frz 3 (sRet (eOpN gTuple (aCons (eVar 3) aNil))))))
theorem r_w_tr_path (fx : Fx w K mg base) {k : Nat} {F_w_tr_filter : List D → Om → Rs D} (hk : 3 ≤ k) (h_w_tr_filter : Cal Pr w K mg base "_law_tr_filter" k ["state", "deep"] (PD (TT K)) F_w_tr_filter) (h_w_draw : Cal Pr w K mg base "_law_draw" 2 ["state", "size_here"] (PD (TT K)) drawF) (h_w_pick : Cal Pr w K mg base "_law_pick" 3 ["state", "several"] (PD (TT K)) pickF) : Cal Pr w K mg base "_law_tr_path" (k + 1) ["state", "deep"] (PD (TT K)) (runB 5 (g_w_tr_path F_w_tr_filter)) := by
  obtain ⟨fd, F⟩ := fx.f_w_tr_path
  exact cal_of (N := ["state", "deep", "axes", "found", "turn"]) (g := g_w_tr_path F_w_tr_filter) F fx.m_w_tr_path sc_w_tr_path rfl (fun cdv ecd A outer s H E hr tk => (sd_cons (sd_parVN (i := 2) (j := 3) rfl sc_w_tr_path.nd rfl rfl (by decide) rfl rfl (pd_lst (ad_cons pd_str (ad_cons pd_str (ad_cons pd_str (ad_cons pd_str ad_nil)))))) (sd_cons (sd_for (passes_of rfl) rfl (id_range fx.n_range (ad_cons (pd_cal (ps := ["state", "size_here"]) h_w_draw (hr.mono (by omega)) tk (LenA.cons (LenA.cons LenA.nil)) (ad_cons (pd_var 0) (ad_cons pd_int ad_nil))) ad_nil)) (gd_name (i := 4) sc_w_tr_path.nd rfl (by first | exact .inl rfl | exact .inr rfl)) (sd_one (sd_app (i := 3) rfl (pd_tup (ad_cons (pd_cal (ps := ["state", "several"]) h_w_pick (hr.mono (by omega)) tk (LenA.cons (LenA.cons LenA.nil)) (ad_cons (pd_var 0) (ad_cons (pd_var 2) ad_nil))) (ad_cons (pd_if (td_w (wd_and (td_cmp op_gt o_gt (by first | exact nobehind _ (by decide) (by decide) | rfl) (pd_var 1) pd_int) (wd_and1 (td_cmp (c_eqX hr.units) o_eqX (by first | exact nobehind _ (by decide) (by decide) | rfl) (pd_cal (ps := ["state", "size_here"]) h_w_draw (hr.mono (by omega)) tk (LenA.cons (LenA.cons LenA.nil)) (ad_cons (pd_var 0) (ad_cons pd_int ad_nil))) pd_int)))) (pd_cal (ps := ["state", "deep"]) h_w_tr_filter (hr.mono (by omega)) tk (LenA.cons (LenA.cons LenA.nil)) (ad_cons (pd_var 0) (ad_cons (pd_op op_sub o_sub (pd_var 1) pd_int) ad_nil))) (pd_cal (ps := ["state", "deep"]) h_w_tr_filter (hr.mono (by omega)) tk (LenA.cons (LenA.cons LenA.nil)) (ad_cons (pd_var 0) (ad_cons pd_int ad_nil)))) ad_nil)))))) (sd_frz (i := 3) (sd_one (sd_ret (pd_callTy call_tuple_of opn_tuple fx.n_tuple (by decide +kernel) (ad_cons (pd_var 3) ad_nil)))))))) (fun _ _ _ _ _ _ us hl => match us, hl with | [_, _], _ => rfl)
def g_w_tr_filter (F_w_tr_filter F_w_tr_path : List D → Om → Rs D) : EvS := (sSeq (sSet 2 (eCall drawF (aCons (eVar 0) (aCons (eIf (tB (eOp2 gGt (eVar 1) (eC (.int 0)))) (eC (.int 8)) (eC (.int 3))) aNil)))) (sSeq (sIf (tB (eOp2 gEqX (eVar 2) (eC (.int 0)))) (sRet (eOpN gTup (aCons (eC (.str "true")) aNil))) sNext) (sSeq (sIf (tB (eOp2 gLt (eVar 2) (eC (.int 3)))) (sRet (eOpN gTup (aCons (eC (.str "label")) (aCons (eCall pickF (aCons (eVar 0) (aCons (eOpN gLst (aCons (eC (.str "a")) (aCons (eC (.str "b")) (aCons (eC (.str "c")) (aCons (eC (.str "a")) (aCons (eC (.str "b")) (aCons (eC (.str "d")) aNil))))))) aNil))) aNil)))) sNext) (sSeq (sIf (tB (eOp2 gEqX (eVar 2) (eC (.int 3)))) (sRet (eOpN gTup (aCons (eC (.str "not")) (aCons (eCall F_w_tr_filter (aCons (eVar 0) (aCons (eOp2 gSub (eVar 1) (eC (.int 1))) aNil))) aNil)))) sNext) (sSeq (sIf (tB (eOp2 gLt (eVar 2) (eC (.int 6)))) (sRet (eOpN gTup (aCons (eOp2 gIx (eOpN gLst (aCons (eC (.str "and")) (aCons (eC (.str "or")) aNil))) (eOp2 gSub (eVar 2) (eC (.int 4)))) (aCons (eCall F_w_tr_filter (aCons (eVar 0) (aCons (eOp2 gSub (eVar 1) (eC (.int 1))) aNil))) (aCons (eCall F_w_tr_filter (aCons (eVar 0) (aCons (eOp2 gSub (eVar 1) (eC (.int 1))) aNil))) aNil))))) sNext) (sRet (eOpN gTup (aCons (eC (.str "some")) (aCons (eCall F_w_tr_path (aCons (eVar 0) (aCons (eOp2 gSub (eVar 1) (eC (.int 1))) aNil))) aNil)))))))))
theorem r_w_tr_filter (fx : Fx w K mg base) {k : Nat} {F_w_tr_filter F_w_tr_path : List D → Om → Rs D} (hk : 3 ≤ k) (h_w_tr_filter : Cal Pr w K mg base "_law_tr_filter" k ["state", "deep"] (PD (TT K)) F_w_tr_filter) (h_w_tr_path : Cal Pr w K mg base "_law_tr_path" (k + 1) ["state", "deep"] (PD (TT K)) F_w_tr_path) (h_w_draw : Cal Pr w K mg base "_law_draw" 2 ["state", "size_here"] (PD (TT K)) drawF) (h_w_pick : Cal Pr w K mg base "_law_pick" 3 ["state", "several"] (PD (TT K)) pickF) : Cal Pr w K mg base "_law_tr_filter" (k + 2) ["state", "deep"] (PD (TT K)) (runB 3 (g_w_tr_filter F_w_tr_filter F_w_tr_path)) := by
  obtain ⟨fd, F⟩ := fx.f_w_tr_filter
  exact cal_of (N := ["state", "deep", "way"]) (g := g_w_tr_filter F_w_tr_filter F_w_tr_path) F fx.m_w_tr_filter sc_w_tr_filter rfl (fun cdv ecd A outer s H E hr tk => (sd_cons (sd_set (i := 2) sc_w_tr_filter.nd rfl (by first | exact .inl rfl | exact .inr rfl) (pd_cal (ps := ["state", "size_here"]) h_w_draw (hr.mono (by omega)) tk (LenA.cons (LenA.cons LenA.nil)) (ad_cons (pd_var 0) (ad_cons (pd_if (td_cmp op_gt o_gt (by first | exact nobehind _ (by decide) (by decide) | rfl) (pd_var 1) pd_int) pd_int pd_int) ad_nil)))) (sd_cons (sd_if (td_cmp (c_eqX hr.units) o_eqX (by first | exact nobehind _ (by decide) (by decide) | rfl) (pd_var 2) pd_int) (sd_one (sd_ret (pd_tup (ad_cons pd_str ad_nil)))) sd_nil) (sd_cons (sd_if (td_cmp op_lt o_lt (by first | exact nobehind _ (by decide) (by decide) | rfl) (pd_var 2) pd_int) (sd_one (sd_ret (pd_tup (ad_cons pd_str (ad_cons (pd_cal (ps := ["state", "several"]) h_w_pick (hr.mono (by omega)) tk (LenA.cons (LenA.cons LenA.nil)) (ad_cons (pd_var 0) (ad_cons (pd_lst (ad_cons pd_str (ad_cons pd_str (ad_cons pd_str (ad_cons pd_str (ad_cons pd_str (ad_cons pd_str ad_nil))))))) ad_nil))) ad_nil))))) sd_nil) (sd_cons (sd_if (td_cmp (c_eqX hr.units) o_eqX (by first | exact nobehind _ (by decide) (by decide) | rfl) (pd_var 2) pd_int) (sd_one (sd_ret (pd_tup (ad_cons pd_str (ad_cons (pd_cal (ps := ["state", "deep"]) h_w_tr_filter (hr.mono (by omega)) tk (LenA.cons (LenA.cons LenA.nil)) (ad_cons (pd_var 0) (ad_cons (pd_op op_sub o_sub (pd_var 1) pd_int) ad_nil))) ad_nil))))) sd_nil) (sd_cons (sd_if (td_cmp op_lt o_lt (by first | exact nobehind _ (by decide) (by decide) | rfl) (pd_var 2) pd_int) (sd_one (sd_ret (pd_tup (ad_cons (pd_ix ix_seq op2_ix (pd_lst (ad_cons pd_str (ad_cons pd_str ad_nil))) (pd_op op_sub o_sub (pd_var 2) pd_int)) (ad_cons (pd_cal (ps := ["state", "deep"]) h_w_tr_filter (hr.mono (by omega)) tk (LenA.cons (LenA.cons LenA.nil)) (ad_cons (pd_var 0) (ad_cons (pd_op op_sub o_sub (pd_var 1) pd_int) ad_nil))) (ad_cons (pd_cal (ps := ["state", "deep"]) h_w_tr_filter (hr.mono (by omega)) tk (LenA.cons (LenA.cons LenA.nil)) (ad_cons (pd_var 0) (ad_cons (pd_op op_sub o_sub (pd_var 1) pd_int) ad_nil))) ad_nil)))))) sd_nil) (sd_one (sd_ret (pd_tup (ad_cons pd_str (ad_cons (pd_cal (ps := ["state", "deep"]) h_w_tr_path (hr.mono (by omega)) tk (LenA.cons (LenA.cons LenA.nil)) (ad_cons (pd_var 0) (ad_cons (pd_op op_sub o_sub (pd_var 1) pd_int) ad_nil))) ad_nil))))))))))) (fun _ _ _ _ _ _ us hl => match us, hl with | [_, _], _ => rfl)
def f_w_tr_filter : Nat → List D → Om → Rs D
  | 0 => fun _ _ => .bad
  | d + 1 => runB 3 (g_w_tr_filter (f_w_tr_filter d) (runB 5 (g_w_tr_path (f_w_tr_filter d))))
theorem c_w_tr_filter (fx : Fx w K mg base) (h_w_draw : Cal Pr w K mg base "_law_draw" 2 ["state", "size_here"] (PD (TT K)) drawF) (h_w_pick : Cal Pr w K mg base "_law_pick" 3 ["state", "several"] (PD (TT K)) pickF) : ∀ d, Cal Pr w K mg base "_law_tr_filter" (3 + 2 * d) ["state", "deep"] (PD (TT K)) (f_w_tr_filter d)
  | 0 => by
    obtain ⟨fd, F⟩ := fx.f_w_tr_filter
    exact cal_bad F fx.m_w_tr_filter (fun _ _ _ _ _ _ us hl => match us, hl with | [_, _], _ => rfl)
  | d + 1 => (r_w_tr_filter fx (Nat.le_add_right _ _) (c_w_tr_filter fx h_w_draw h_w_pick d) (r_w_tr_path fx (Nat.le_add_right _ _) (c_w_tr_filter fx h_w_draw h_w_pick d) h_w_draw h_w_pick) h_w_draw h_w_pick).up (by omega)
def g_w_fp_same (F_w_fp_same : List D → Om → Rs D) : EvS := (sSeq (sIf (tB (eOpN (gIsc kb) (aCons (eVar 1) (aCons (eC (.ty "tuple")) aNil)))) (sSeq (sIf (tOr (tNot (tB (eOpN (gIsc kb) (aCons (eVar 0) (aCons (eC (.ty "tuple")) aNil))))) (tB (eOp2 gNeX (eOpN gLen (aCons (eVar 0) aNil)) (eOpN gLen (aCons (eVar 1) aNil))))) (sRet (eC (.bl false))) sNext) (sRet (eOp2 (gInV true) (eC (.bl false)) (eComp (iZip (aCons (eVar 0) (aCons (eVar 1) aNil))) (gdTup2 2 3) tTrue (eCall F_w_fp_same (aCons (eVar 2) (aCons (eVar 3) aNil))) [2, 3])))) sNext) (sSeq (sIf (tB (eOp2 (gIsN false) (eVar 1) (eC .non))) (sRet (eOp2 (gIsN false) (eVar 0) (eC .non))) sNext) (sSeq (sIf (tOr (tB (eOp2 gIsB (eVar 1) (eC (.bl true)))) (tB (eOp2 gIsB (eVar 1) (eC (.bl false))))) (sRet (eCall f_w_is_truth (aCons (eVar 0) (aCons (eVar 1) aNil)))) sNext) (sSeq (sIf (tB (eOpN (gIsc kb) (aCons (eVar 1) (aCons (eC (.ty "str")) aNil)))) (sRet (eAnd (eOpN (gIsc kb) (aCons (eVar 0) (aCons (eC (.ty "str")) aNil))) (eOp2 gEqX (eVar 0) (eVar 1)))) sNext) (sRet (eAnd (eCall f_w_is_whole (aCons (eVar 0) aNil)) (eOp2 gEqX (eVar 0) (eVar 1))))))))
theorem r_w_fp_same (fx : Fx w K mg base) {k : Nat} {F_w_fp_same : List D → Om → Rs D} (hk : 1 ≤ k) (h_w_fp_same : Cal Pr w K mg base "_law_fp_same" k ["found", "due"] (PD (TT K)) F_w_fp_same)  (h_w_is_truth : Cal Pr w K mg base "_law_is_truth" 1 ["found", "due"] (PD (TT K)) f_w_is_truth) (h_w_is_whole : Cal Pr w K mg base "_law_is_whole" 1 ["item"] (PD (TT K)) f_w_is_whole) : Cal Pr w K mg base "_law_fp_same" (k + 1) ["found", "due"] (PD (TT K)) (runB 4 (g_w_fp_same F_w_fp_same)) := by
  obtain ⟨fd, F⟩ := fx.f_w_fp_same
  exact cal_of (N := ["found", "due", "one", "other"]) (g := g_w_fp_same F_w_fp_same) F fx.m_w_fp_same sc_w_fp_same rfl (fun cdv ecd A outer s H E hr tk => (sd_cons (sd_if (td_val (pd_callB c_isc (o_isc fx.kb fx.xc kb_cs) fx.n_isinstance (by decide +kernel) (ad_cons (pd_var 1) (ad_cons (pd_ty fx.n_tuple (by decide +kernel)) ad_nil)))) (sd_cons (sd_if (td_w (wd_or (td_not (td_val (pd_callB c_isc (o_isc fx.kb fx.xc kb_cs) fx.n_isinstance (by decide +kernel) (ad_cons (pd_var 0) (ad_cons (pd_ty fx.n_tuple (by decide +kernel)) ad_nil))))) (wd_or1 (td_cmp (c_neX hr.units) o_neX (by first | exact nobehind _ (by decide) (by decide) | rfl) (pd_callB call_len opn_len fx.n_len (by decide +kernel) (ad_cons (pd_var 0) ad_nil)) (pd_callB call_len opn_len fx.n_len (by decide +kernel) (ad_cons (pd_var 1) ad_nil)))))) (sd_one (sd_ret pd_bl)) sd_nil) (sd_one (sd_ret (pd_cmp op_notIn_seq o_inV (by first | exact nobehind _ (by decide) (by decide) | rfl) pd_bl (pd_lc rfl sc_w_fp_same.nd (id_zip fx.n_zip (ad_cons (pd_var 0) (ad_cons (pd_var 1) ad_nil))) (blkOk_by (own := [("one", 2), ("other", 3)]) (by kernel_rfl)) (fun p => (gd_tup2 (i := 2) (j := 3) rfl sc_w_fp_same.nd rfl rfl (by first | exact .inl rfl | exact .inr rfl) (by first | exact .inl rfl | exact .inr rfl))) (fun p => tsd_nil) (fun p => (pd_cal (ps := ["found", "due"]) h_w_fp_same (hr.mono (by omega)) L2.takes0 (LenA.cons (LenA.cons LenA.nil)) (ad_cons (pd_var 2) (ad_cons (pd_var 3) ad_nil))))))))) sd_nil) (sd_cons (sd_if (td_cmp op_isN op2_isN (by first | exact nobehind _ (by decide) (by decide) | rfl) (pd_var 1) pd_non) (sd_one (sd_ret (pd_cmp op_isN op2_isN (by first | exact nobehind _ (by decide) (by decide) | rfl) (pd_var 0) pd_non))) sd_nil) (sd_cons (sd_if (td_w (wd_or (td_cmp op_isV o_isB (by first | exact nobehind _ (by decide) (by decide) | rfl) (pd_var 1) pd_bl) (wd_or1 (td_cmp op_isV o_isB (by first | exact nobehind _ (by decide) (by decide) | rfl) (pd_var 1) pd_bl)))) (sd_one (sd_ret (pd_cal (ps := ["found", "due"]) h_w_is_truth (hr.mono (by omega)) tk (LenA.cons (LenA.cons LenA.nil)) (ad_cons (pd_var 0) (ad_cons (pd_var 1) ad_nil))))) sd_nil) (sd_cons (sd_if (td_val (pd_callB c_isc (o_isc fx.kb fx.xc kb_cs) fx.n_isinstance (by decide +kernel) (ad_cons (pd_var 1) (ad_cons (pd_ty fx.n_str (by decide +kernel)) ad_nil)))) (sd_one (sd_ret (pd_and (pd_callB c_isc (o_isc fx.kb fx.xc kb_cs) fx.n_isinstance (by decide +kernel) (ad_cons (pd_var 0) (ad_cons (pd_ty fx.n_str (by decide +kernel)) ad_nil))) (pd_one (pd_cmp (c_eqX hr.units) o_eqX (by first | exact nobehind _ (by decide) (by decide) | rfl) (pd_var 0) (pd_var 1)))))) sd_nil) (sd_one (sd_ret (pd_and (pd_cal (ps := ["item"]) h_w_is_whole (hr.mono (by omega)) tk (LenA.cons LenA.nil) (ad_cons (pd_var 0) ad_nil)) (pd_one (pd_cmp (c_eqX hr.units) o_eqX (by first | exact nobehind _ (by decide) (by decide) | rfl) (pd_var 0) (pd_var 1))))))))))) (fun _ _ _ _ _ _ us hl => match us, hl with | [_, _], _ => rfl)
def f_w_fp_same : Nat → List D → Om → Rs D
  | 0 => fun _ _ => .bad
  | d + 1 => runB 4 (g_w_fp_same (f_w_fp_same d))
theorem c_w_fp_same (fx : Fx w K mg base) (h_w_is_truth : Cal Pr w K mg base "_law_is_truth" 1 ["found", "due"] (PD (TT K)) f_w_is_truth) (h_w_is_whole : Cal Pr w K mg base "_law_is_whole" 1 ["item"] (PD (TT K)) f_w_is_whole) : ∀ d, Cal Pr w K mg base "_law_fp_same" (1 + 1 * d) ["found", "due"] (PD (TT K)) (f_w_fp_same d)
  | 0 => by
    obtain ⟨fd, F⟩ := fx.f_w_fp_same
    exact cal_bad F fx.m_w_fp_same (fun _ _ _ _ _ _ us hl => match us, hl with | [_, _], _ => rfl)
  | d + 1 => (r_w_fp_same fx (Nat.le_add_right _ _) (c_w_fp_same fx h_w_is_truth h_w_is_whole d)  h_w_is_truth h_w_is_whole).up (by omega)
def g_w_fp_needs : EvS := (sSeq (sIf (tB (eOp2 (gInV false) (eOp2 gIx (eVar 0) (eC (.int 0))) (eOpN gLst (aCons (eC (.str "not")) (aCons (eC (.str "and")) (aCons (eC (.str "or")) aNil)))))) (sRet (eOpN gList (aCons (eSl gSl (eVar 0) (oSome (eC (.int 1))) oNone) aNil))) sNext) (sSeq (sIf (tAnd (tB (eOp2 gEqX (eOp2 gIx (eVar 0) (eC (.int 0))) (eC (.str "some")))) (tB (eOp2 gNeX (eOp2 gIx (eVar 0) (eC (.int 1))) (eOpN gTup aNil)))) (sRet (eOpN gLst (aCons (eOp2 gIx (eOp2 gIx (eOp2 gIx (eVar 0) (eC (.int 1))) (eC (.int 0))) (eC (.int 1))) (aCons (eOpN gTup (aCons (eC (.str "some")) (aCons (eSl gSl (eOp2 gIx (eVar 0) (eC (.int 1))) (oSome (eC (.int 1))) oNone) aNil))) aNil)))) sNext) (sRet (eOpN gLst aNil))))
def f_w_fp_needs : List D → Om → Rs D := runB 1 g_w_fp_needs
theorem r_w_fp_needs (fx : Fx w K mg base)  : Cal Pr w K mg base "_law_fp_needs" 1 ["one"] (PD (TT K)) (f_w_fp_needs) := by
  obtain ⟨fd, F⟩ := fx.f_w_fp_needs
  exact cal_of (N := ["one"]) (g := g_w_fp_needs) F fx.m_w_fp_needs sc_w_fp_needs rfl (fun cdv ecd A outer s H E hr tk => (sd_cons (sd_if (td_cmp op_in_seq o_inV (by first | exact nobehind _ (by decide) (by decide) | rfl) (pd_ix ix_seq op2_ix (pd_var 0) pd_int) (pd_lst (ad_cons pd_str (ad_cons pd_str (ad_cons pd_str ad_nil))))) (sd_one (sd_ret (pd_callTy call_list_of opn_list fx.n_list (by decide +kernel) (ad_cons (pd_slice sl_any ops_sl (pd_var 0) (od_some pd_int) od_none) ad_nil)))) sd_nil) (sd_cons (sd_if (td_w (wd_and (td_cmp (c_eqX hr.units) o_eqX (by first | exact nobehind _ (by decide) (by decide) | rfl) (pd_ix ix_seq op2_ix (pd_var 0) pd_int) pd_str) (wd_and1 (td_cmp (c_neX hr.units) o_neX (by first | exact nobehind _ (by decide) (by decide) | rfl) (pd_ix ix_seq op2_ix (pd_var 0) pd_int) (pd_tup ad_nil))))) (sd_one (sd_ret (pd_lst (ad_cons (pd_ix ix_seq op2_ix (pd_ix ix_seq op2_ix (pd_ix ix_seq op2_ix (pd_var 0) pd_int) pd_int) pd_int) (ad_cons (pd_tup (ad_cons pd_str (ad_cons (pd_slice sl_any ops_sl (pd_ix ix_seq op2_ix (pd_var 0) pd_int) (od_some pd_int) od_none) ad_nil))) ad_nil))))) sd_nil) (sd_one (sd_ret (pd_lst ad_nil)))))) (fun _ _ _ _ _ _ us hl => match us, hl with | [_], _ => rfl)
def g_w_fp_demands : EvS := (sSeq (sNew 1 aNil) (sSeq (sFor (iAny (eVar 0)) (gdName 2) (sSeq (sNew 3 (aCons (eOpN gTup (aCons (eVar 2) (aCons (eC (.bl false)) aNil))) aNil)) (whileF fuelW (tPeek 3 (tB (eOp2 gNeX (eVar 3) (eOpN gLst aNil)))) (sSeq (sPopT 3 (gdTup2 4 5)) (sSeq (sIf (tPeek 1 (tB (eOp2 (gInA false) (eVar 4) (eVar 1)))) sCont sNext) (sIf (tB (eVar 5)) (sApp 1 (eVar 4)) (sSeq (sApp 3 (eOpN gTup (aCons (eVar 4) (aCons (eC (.bl true)) aNil)))) (sExt 3 (eComp (iAny (eRevL (eCall f_w_fp_needs (aCons (eVar 4) aNil)))) (gdName 6) tTrue (eOpN gTup (aCons (eVar 6) (aCons (eC (.bl false)) aNil))) [6]))))))))) (frz 1 (sRet (eOpN gTuple (aCons (eVar 1) aNil))))))
def f_w_fp_demands : List D → Om → Rs D := runB 7 g_w_fp_demands
theorem r_w_fp_demands (fx : Fx w K mg base) (h_w_fp_needs : Cal Pr w K mg base "_law_fp_needs" 1 ["one"] (PD (TT K)) f_w_fp_needs) : Cal Pr w K mg base "_law_fp_demands" 2 ["filters"] (PD (TT K)) (f_w_fp_demands) := by
  obtain ⟨fd, F⟩ := fx.f_w_fp_demands
  exact cal_of (N := ["filters", "found", "one", "todo", "here", "is_open", "need"]) (g := g_w_fp_demands) F fx.m_w_fp_demands sc_w_fp_demands rfl (fun cdv ecd A outer s H E hr tk => (sd_cons (sd_new (i := 1) sc_w_fp_demands.nd rfl (by first | exact .inl rfl | exact .inr rfl) ad_nil) (sd_cons (sd_for (passes_of rfl) rfl (id_any (pd_var 0)) (gd_name (i := 2) sc_w_fp_demands.nd rfl (by first | exact .inl rfl | exact .inr rfl)) (sd_cons (sd_new (i := 3) sc_w_fp_demands.nd rfl (by first | exact .inl rfl | exact .inr rfl) (ad_cons (pd_tup (ad_cons (pd_var 2) (ad_cons pd_bl ad_nil))) ad_nil)) (sd_one (sd_while fuelW (passes_of rfl) (td_peek (i := 3) (td_cmp (c_neX hr.units) o_neX (by first | exact nobehind _ (by decide) (by decide) | rfl) (pd_var 3) (pd_lst ad_nil))) (sd_cons (sd_popT (i := 3) rfl (gd_tup2 (i := 4) (j := 5) rfl sc_w_fp_demands.nd rfl rfl (by first | exact .inl rfl | exact .inr rfl) (by first | exact .inl rfl | exact .inr rfl))) (sd_cons (sd_if (td_peek (i := 1) (td_cmp (op_inA (units65 hr)) o_inA (by first | exact nobehind _ (by decide) (by decide) | rfl) (pd_var 4) (pd_var 1))) (sd_one sd_cont) sd_nil) (sd_one (sd_if (td_val (pd_var 5)) (sd_one (sd_app (i := 1) rfl (pd_var 4))) (sd_cons (sd_app (i := 3) rfl (pd_tup (ad_cons (pd_var 4) (ad_cons pd_bl ad_nil)))) (sd_one (sd_ext (i := 3) rfl (pd_lc rfl sc_w_fp_demands.nd (id_any (pd_revL (pd_cal (ps := ["one"]) h_w_fp_needs (hr.mono (by decide)) tk (LenA.cons LenA.nil) (ad_cons (pd_var 4) ad_nil)))) (blkOk_by (own := [("need", 6)]) (by kernel_rfl)) (fun p => (gd_name (i := 6) sc_w_fp_demands.nd rfl (by first | exact .inl rfl | exact .inr rfl))) (fun p => tsd_nil) (fun p => (pd_tup (ad_cons (pd_var 6) (ad_cons pd_bl ad_nil)))))))))))))))) (sd_frz (i := 1) (sd_one (sd_ret (pd_callTy call_tuple_of opn_tuple fx.n_tuple (by decide +kernel) (ad_cons (pd_var 1) ad_nil)))))))) (fun _ _ _ _ _ _ us hl => match us, hl with | [_], _ => rfl)
def g_w_k24_is_name : EvS := (sSeq (sIf (tOr (tNot (tB (eOpN (gIsc kb) (aCons (eVar 0) (aCons (eC (.ty "str")) aNil))))) (tOr (tB (eOp2 gEqX (eVar 0) (eC (.str "")))) (tOr (tB (eOp2 gGt (eOpN gLen (aCons (eVar 0) aNil)) (eC (.int 12)))) (tB (eOp2 (gInS true) (eOp2 gIx (eVar 0) (eC (.int 0))) (eC (.str "abcdefghijklmnopqrstuvwxyz"))))))) (sRet (eC (.bl false))) sNext) (sRet (eOp2 gEqX (eComp (iAny (eVar 0)) (gdName 1) (tB (eOp2 (gInS true) (eVar 1) (eC (.str "abcdefghijklmnopqrstuvwxyz0123456789_")))) (eVar 1) [1]) (eOpN gLst aNil))))
def f_w_k24_is_name : List D → Om → Rs D := runB 2 g_w_k24_is_name
theorem r_w_k24_is_name (fx : Fx w K mg base)  : Cal Pr w K mg base "_law_k24_is_name" 1 ["value"] (PD (TT K)) (f_w_k24_is_name) := by
  obtain ⟨fd, F⟩ := fx.f_w_k24_is_name
  exact cal_of (N := ["value", "sign"]) (g := g_w_k24_is_name) F fx.m_w_k24_is_name sc_w_k24_is_name rfl (fun cdv ecd A outer s H E hr tk => (sd_cons (sd_if (td_w (wd_or (td_not (td_val (pd_callB c_isc (o_isc fx.kb fx.xc kb_cs) fx.n_isinstance (by decide +kernel) (ad_cons (pd_var 0) (ad_cons (pd_ty fx.n_str (by decide +kernel)) ad_nil))))) (wd_or (td_cmp (c_eqX hr.units) o_eqX (by first | exact nobehind _ (by decide) (by decide) | rfl) (pd_var 0) pd_str) (wd_or (td_cmp op_gt o_gt (by first | exact nobehind _ (by decide) (by decide) | rfl) (pd_callB call_len opn_len fx.n_len (by decide +kernel) (ad_cons (pd_var 0) ad_nil)) pd_int) (wd_or1 (td_cmp op_notIn_sign o_notInS (by first | exact nobehind _ (by decide) (by decide) | rfl) (pd_ix ix_seq op2_ix (pd_var 0) pd_int) pd_str)))))) (sd_one (sd_ret pd_bl)) sd_nil) (sd_one (sd_ret (pd_cmp (c_eqX hr.units) o_eqX (by first | exact nobehind _ (by decide) (by decide) | rfl) (pd_lc rfl sc_w_k24_is_name.nd (id_any (pd_var 0)) (blkOk_by (own := [("sign", 1)]) (by kernel_rfl)) (fun p => (gd_name (i := 1) sc_w_k24_is_name.nd rfl (by first | exact .inl rfl | exact .inr rfl))) (fun p => (tsd_one (td_cmp op_notIn_sign o_notInS (by first | exact nobehind _ (by decide) (by decide) | rfl) (pd_var 1) pd_str))) (fun p => (pd_var 1))) (pd_lst ad_nil)))))) (fun _ _ _ _ _ _ us hl => match us, hl with | [_], _ => rfl)
def g_w_k24_steps (F_w_k24_nodes : List D → Om → Rs D) : EvS := (sSeq (sIf (tOr (tNot (tB (eOpN (gIsc kb) (aCons (eVar 0) (aCons (eC (.ty "tuple")) aNil))))) (tB (eOp2 gGt (eOpN gLen (aCons (eVar 0) aNil)) (eC (.int 8))))) (sRet (eC (.int 1000))) sNext) (sSeq (sSet 2 (eC (.int 0))) (sSeq (sFor (iAny (eVar 0)) (gdName 3) (sSeq (sIf (tOr (tNot (tB (eOpN (gIsc kb) (aCons (eVar 3) (aCons (eC (.ty "tuple")) aNil))))) (tOr (tB (eOp2 gNeX (eOpN gLen (aCons (eVar 3) aNil)) (eC (.int 2)))) (tNot (tB (eOpN (gIsc kb) (aCons (eOp2 gIx (eVar 3) (eC (.int 0))) (aCons (eC (.ty "str")) aNil))))))) (sRet (eC (.int 1000))) sNext) (sSet 2 (eIf (tB (eOp2 (gInV false) (eOp2 gIx (eVar 3) (eC (.int 0))) (eOpN gLst (aCons (eC (.str "self")) (aCons (eC (.str "child")) (aCons (eC (.str "below")) aNil)))))) (eOp2 gAdd (eOp2 gAdd (eVar 2) (eC (.int 1))) (eCall F_w_k24_nodes (aCons (eOp2 gIx (eVar 3) (eC (.int 1))) (aCons (eVar 1) aNil)))) (eC (.int 1000)))))) (sRet (eVar 2)))))
theorem r_w_k24_steps (fx : Fx w K mg base) {k : Nat} {F_w_k24_nodes : List D → Om → Rs D} (hk : 1 ≤ k) (h_w_k24_nodes : Cal Pr w K mg base "_law_k24_nodes" k ["value", "deep"] (PD (TT K)) F_w_k24_nodes)  : Cal Pr w K mg base "_law_k24_steps" (k + 1) ["value", "deep"] (PD (TT K)) (runB 4 (g_w_k24_steps F_w_k24_nodes)) := by
  obtain ⟨fd, F⟩ := fx.f_w_k24_steps
  exact cal_of (N := ["value", "deep", "found", "step"]) (g := g_w_k24_steps F_w_k24_nodes) F fx.m_w_k24_steps sc_w_k24_steps rfl (fun cdv ecd A outer s H E hr tk => (sd_cons (sd_if (td_w (wd_or (td_not (td_val (pd_callB c_isc (o_isc fx.kb fx.xc kb_cs) fx.n_isinstance (by decide +kernel) (ad_cons (pd_var 0) (ad_cons (pd_ty fx.n_tuple (by decide +kernel)) ad_nil))))) (wd_or1 (td_cmp op_gt o_gt (by first | exact nobehind _ (by decide) (by decide) | rfl) (pd_callB call_len opn_len fx.n_len (by decide +kernel) (ad_cons (pd_var 0) ad_nil)) pd_int)))) (sd_one (sd_ret pd_int)) sd_nil) (sd_cons (sd_set (i := 2) sc_w_k24_steps.nd rfl (by first | exact .inl rfl | exact .inr rfl) pd_int) (sd_cons (sd_for (passes_of rfl) rfl (id_any (pd_var 0)) (gd_name (i := 3) sc_w_k24_steps.nd rfl (by first | exact .inl rfl | exact .inr rfl)) (sd_cons (sd_if (td_w (wd_or (td_not (td_val (pd_callB c_isc (o_isc fx.kb fx.xc kb_cs) fx.n_isinstance (by decide +kernel) (ad_cons (pd_var 3) (ad_cons (pd_ty fx.n_tuple (by decide +kernel)) ad_nil))))) (wd_or (td_cmp (c_neX hr.units) o_neX (by first | exact nobehind _ (by decide) (by decide) | rfl) (pd_callB call_len opn_len fx.n_len (by decide +kernel) (ad_cons (pd_var 3) ad_nil)) pd_int) (wd_or1 (td_not (td_val (pd_callB c_isc (o_isc fx.kb fx.xc kb_cs) fx.n_isinstance (by decide +kernel) (ad_cons (pd_ix ix_seq op2_ix (pd_var 3) pd_int) (ad_cons (pd_ty fx.n_str (by decide +kernel)) ad_nil))))))))) (sd_one (sd_ret pd_int)) sd_nil) (sd_one (sd_set (i := 2) sc_w_k24_steps.nd rfl (by first | exact .inl rfl | exact .inr rfl) (pd_if (td_cmp op_in_seq o_inV (by first | exact nobehind _ (by decide) (by decide) | rfl) (pd_ix ix_seq op2_ix (pd_var 3) pd_int) (pd_lst (ad_cons pd_str (ad_cons pd_str (ad_cons pd_str ad_nil))))) (pd_op op_addA op2_add (pd_op op_addA op2_add (pd_var 2) pd_int) (pd_cal (ps := ["value", "deep"]) h_w_k24_nodes (hr.mono (by omega)) tk (LenA.cons (LenA.cons LenA.nil)) (ad_cons (pd_ix ix_seq op2_ix (pd_var 3) pd_int) (ad_cons (pd_var 1) ad_nil)))) pd_int))))) (sd_one (sd_ret (pd_var 2))))))) (fun _ _ _ _ _ _ us hl => match us, hl with | [_, _], _ => rfl)
def g_w_k24_nodes (F_w_k24_nodes F_w_k24_steps : List D → Om → Rs D) : EvS := (sSeq (sIf (tOr (tB (eOp2 gEqX (eVar 1) (eC (.int 0)))) (tOr (tNot (tB (eOpN (gIsc kb) (aCons (eVar 0) (aCons (eC (.ty "tuple")) aNil))))) (tOr (tB (eOp2 gEqX (eVar 0) (eOpN gTup aNil))) (tNot (tB (eOpN (gIsc kb) (aCons (eOp2 gIx (eVar 0) (eC (.int 0))) (aCons (eC (.ty "str")) aNil)))))))) (sRet (eC (.int 1000))) sNext) (sSeq (sIf (tB (eOp2 gEqX (eVar 0) (eOpN gTup (aCons (eC (.str "true")) aNil)))) (sRet (eC (.int 1))) sNext) (sSeq (sIf (tB (eOp2 gEqX (eOp2 gIx (eVar 0) (eC (.int 0))) (eC (.str "label")))) (sRet (eIf (tAnd (tB (eOp2 gEqX (eOpN gLen (aCons (eVar 0) aNil)) (eC (.int 2)))) (tB (eCall f_w_k24_is_name (aCons (eOp2 gIx (eVar 0) (eC (.int 1))) aNil)))) (eC (.int 1)) (eC (.int 1000)))) sNext) (sSeq (sIf (tB (eOp2 gEqX (eOp2 gIx (eVar 0) (eC (.int 0))) (eC (.str "some")))) (sRet (eIf (tB (eOp2 gEqX (eOpN gLen (aCons (eVar 0) aNil)) (eC (.int 2)))) (eOp2 gAdd (eC (.int 1)) (eCall F_w_k24_steps (aCons (eOp2 gIx (eVar 0) (eC (.int 1))) (aCons (eOp2 gSub (eVar 1) (eC (.int 1))) aNil)))) (eC (.int 1000)))) sNext) (sSeq (sSet 2 (eC (.map ["not", "and", "or"] [.int 2, .int 3, .int 3]))) (sSeq (sIf (tB (eOp2 gNeX (eOpN gLen (aCons (eVar 0) aNil)) (eGet2 (eVar 2) (eOp2 gIx (eVar 0) (eC (.int 0))) (eC (.int 0))))) (sRet (eC (.int 1000))) sNext) (sRet (eOp2 gAdd (eC (.int 1)) (eOpN gSum (aCons (eComp (iAny (eSl gSl (eVar 0) (oSome (eC (.int 1))) oNone)) (gdName 3) tTrue (eCall F_w_k24_nodes (aCons (eVar 3) (aCons (eOp2 gSub (eVar 1) (eC (.int 1))) aNil))) [3]) aNil))))))))))
theorem r_w_k24_nodes (fx : Fx w K mg base) {k : Nat} {F_w_k24_nodes F_w_k24_steps : List D → Om → Rs D} (hk : 1 ≤ k) (h_w_k24_nodes : Cal Pr w K mg base "_law_k24_nodes" k ["value", "deep"] (PD (TT K)) F_w_k24_nodes) (h_w_k24_steps : Cal Pr w K mg base "_law_k24_steps" (k + 1) ["value", "deep"] (PD (TT K)) F_w_k24_steps) (h_w_k24_is_name : Cal Pr w K mg base "_law_k24_is_name" 1 ["value"] (PD (TT K)) f_w_k24_is_name) : Cal Pr w K mg base "_law_k24_nodes" (k + 2) ["value", "deep"] (PD (TT K)) (runB 4 (g_w_k24_nodes F_w_k24_nodes F_w_k24_steps)) := by
  obtain ⟨fd, F⟩ := fx.f_w_k24_nodes
  exact cal_of (N := ["value", "deep", "many", "part"]) (g := g_w_k24_nodes F_w_k24_nodes F_w_k24_steps) F fx.m_w_k24_nodes sc_w_k24_nodes rfl (fun cdv ecd A outer s H E hr tk => (sd_cons (sd_if (td_w (wd_or (td_cmp (c_eqX hr.units) o_eqX (by first | exact nobehind _ (by decide) (by decide) | rfl) (pd_var 1) pd_int) (wd_or (td_not (td_val (pd_callB c_isc (o_isc fx.kb fx.xc kb_cs) fx.n_isinstance (by decide +kernel) (ad_cons (pd_var 0) (ad_cons (pd_ty fx.n_tuple (by decide +kernel)) ad_nil))))) (wd_or (td_cmp (c_eqX hr.units) o_eqX (by first | exact nobehind _ (by decide) (by decide) | rfl) (pd_var 0) (pd_tup ad_nil)) (wd_or1 (td_not (td_val (pd_callB c_isc (o_isc fx.kb fx.xc kb_cs) fx.n_isinstance (by decide +kernel) (ad_cons (pd_ix ix_seq op2_ix (pd_var 0) pd_int) (ad_cons (pd_ty fx.n_str (by decide +kernel)) ad_nil)))))))))) (sd_one (sd_ret pd_int)) sd_nil) (sd_cons (sd_if (td_cmp (c_eqX hr.units) o_eqX (by first | exact nobehind _ (by decide) (by decide) | rfl) (pd_var 0) (pd_tup (ad_cons pd_str ad_nil))) (sd_one (sd_ret pd_int)) sd_nil) (sd_cons (sd_if (td_cmp (c_eqX hr.units) o_eqX (by first | exact nobehind _ (by decide) (by decide) | rfl) (pd_ix ix_seq op2_ix (pd_var 0) pd_int) pd_str) (sd_one (sd_ret (pd_if (td_w (wd_and (td_cmp (c_eqX hr.units) o_eqX (by first | exact nobehind _ (by decide) (by decide) | rfl) (pd_callB call_len opn_len fx.n_len (by decide +kernel) (ad_cons (pd_var 0) ad_nil)) pd_int) (wd_and1 (td_val (pd_cal (ps := ["value"]) h_w_k24_is_name (hr.mono (by omega)) tk (LenA.cons LenA.nil) (ad_cons (pd_ix ix_seq op2_ix (pd_var 0) pd_int) ad_nil)))))) pd_int pd_int))) sd_nil) (sd_cons (sd_if (td_cmp (c_eqX hr.units) o_eqX (by first | exact nobehind _ (by decide) (by decide) | rfl) (pd_ix ix_seq op2_ix (pd_var 0) pd_int) pd_str) (sd_one (sd_ret (pd_if (td_cmp (c_eqX hr.units) o_eqX (by first | exact nobehind _ (by decide) (by decide) | rfl) (pd_callB call_len opn_len fx.n_len (by decide +kernel) (ad_cons (pd_var 0) ad_nil)) pd_int) (pd_op op_addA op2_add pd_int (pd_cal (ps := ["value", "deep"]) h_w_k24_steps (hr.mono (by omega)) tk (LenA.cons (LenA.cons LenA.nil)) (ad_cons (pd_ix ix_seq op2_ix (pd_var 0) pd_int) (ad_cons (pd_op op_sub o_sub (pd_var 1) pd_int) ad_nil)))) pd_int))) sd_nil) (sd_cons (sd_set (i := 2) sc_w_k24_nodes.nd rfl (by first | exact .inl rfl | exact .inr rfl) (pd_mapC (ks := ["not", "and", "or"]) (xs := [.int 2, .int 3, .int 3]) (pps_cons pe_str pe_int (pps_cons pe_str pe_int (pps_cons pe_str pe_int pps_nil))) (fun _ _ _ => (.cons (.int _) (.cons (.int _) (.cons (.int _) .nil)))) rfl rfl (by decide))) (sd_cons (sd_if (td_cmp (c_neX hr.units) o_neX (by first | exact nobehind _ (by decide) (by decide) | rfl) (pd_callB call_len opn_len fx.n_len (by decide +kernel) (ad_cons (pd_var 0) ad_nil)) (pd_get2 hr.units (pd_var 2) (pd_ix ix_seq op2_ix (pd_var 0) pd_int) pd_int ⟨rfl, rfl, rfl, rfl⟩)) (sd_one (sd_ret pd_int)) sd_nil) (sd_one (sd_ret (pd_op op_addA op2_add pd_int (pd_callB (cr_sum rfl) opn_sum fx.n_sum (by decide +kernel) (ad_cons (pd_lc rfl sc_w_k24_nodes.nd (id_any (pd_slice sl_any ops_sl (pd_var 0) (od_some pd_int) od_none)) (blkOk_by (own := [("part", 3)]) (by kernel_rfl)) (fun p => (gd_name (i := 3) sc_w_k24_nodes.nd rfl (by first | exact .inl rfl | exact .inr rfl))) (fun p => tsd_nil) (fun p => (pd_cal (ps := ["value", "deep"]) h_w_k24_nodes (hr.mono (by omega)) L2.takes0 (LenA.cons (LenA.cons LenA.nil)) (ad_cons (pd_var 3) (ad_cons (pd_op op_sub o_sub (pd_var 1) pd_int) ad_nil))))) ad_nil)))))))))))) (fun _ _ _ _ _ _ us hl => match us, hl with | [_, _], _ => rfl)
def f_w_k24_nodes : Nat → List D → Om → Rs D
  | 0 => fun _ _ => .bad
  | d + 1 => runB 4 (g_w_k24_nodes (f_w_k24_nodes d) (runB 4 (g_w_k24_steps (f_w_k24_nodes d))))
theorem c_w_k24_nodes (fx : Fx w K mg base) (h_w_k24_is_name : Cal Pr w K mg base "_law_k24_is_name" 1 ["value"] (PD (TT K)) f_w_k24_is_name) : ∀ d, Cal Pr w K mg base "_law_k24_nodes" (1 + 2 * d) ["value", "deep"] (PD (TT K)) (f_w_k24_nodes d)
  | 0 => by
    obtain ⟨fd, F⟩ := fx.f_w_k24_nodes
    exact cal_bad F fx.m_w_k24_nodes (fun _ _ _ _ _ _ us hl => match us, hl with | [_, _], _ => rfl)
  | d + 1 => (r_w_k24_nodes fx (Nat.le_add_right _ _) (c_w_k24_nodes fx h_w_k24_is_name d) (r_w_k24_steps fx (Nat.le_add_right _ _) (c_w_k24_nodes fx h_w_k24_is_name d) ) h_w_k24_is_name).up (by omega)
def g_w_k24_is : EvS := (sSeq (sIf (tOr (tNot (tB (eOpN (gIsc kb) (aCons (eVar 0) (aCons (eC (.ty "tuple")) aNil))))) (tNot (tB (eChain gLeA gLeA (eC (.int 1)) (eOpN gLen (aCons (eVar 0) aNil)) (eC (.int 800)))))) (sRet (eC (.bl false))) sNext) (sSeq (sIf (tB (eOp2 gNeX (eComp (iAny (eVar 0)) (gdName 1) (tB (eOp2 gGt (eCall (f_w_k24_nodes 14) (aCons (eVar 1) (aCons (eC (.int 12)) aNil))) (eC (.int 60)))) (eVar 1) [1]) (eOpN gLst aNil))) (sRet (eC (.bl false))) sNext) (sSeq (sNew 2 aNil) (sSeq (sFor (iAny (eVar 0)) (gdName 1) (sSeq (sIf (tPeek 2 (tOr (tB (eOp2 (gInA false) (eVar 1) (eVar 2))) (tB (eOp2 gNeX (eComp (iAny (eCall f_w_fp_needs (aCons (eVar 1) aNil))) (gdName 3) (tB (eOp2 (gInA true) (eVar 3) (eVar 2))) (eVar 3) [3]) (eOpN gLst aNil))))) (sRet (eC (.bl false))) sNext) (sApp 2 (eVar 1)))) (sRet (eC (.bl true)))))))
def f_w_k24_is : List D → Om → Rs D := runB 4 g_w_k24_is
theorem r_w_k24_is (fx : Fx w K mg base) (h_w_fp_needs : Cal Pr w K mg base "_law_fp_needs" 1 ["one"] (PD (TT K)) f_w_fp_needs) (h_w_k24_nodes : Cal Pr w K mg base "_law_k24_nodes" 29 ["value", "deep"] (PD (TT K)) (f_w_k24_nodes 14)) : Cal Pr w K mg base "_law_k24_is" 30 ["value"] (PD (TT K)) (f_w_k24_is) := by
  obtain ⟨fd, F⟩ := fx.f_w_k24_is
  exact cal_of (N := ["value", "one", "ahead", "need"]) (g := g_w_k24_is) F fx.m_w_k24_is sc_w_k24_is rfl (fun cdv ecd A outer s H E hr tk => (sd_cons (sd_if (td_w (wd_or (td_not (td_val (pd_callB c_isc (o_isc fx.kb fx.xc kb_cs) fx.n_isinstance (by decide +kernel) (ad_cons (pd_var 0) (ad_cons (pd_ty fx.n_tuple (by decide +kernel)) ad_nil))))) (wd_or1 (td_not (td_chain c_le c_le o_leA o_leA pd_int (pd_callB call_len opn_len fx.n_len (by decide +kernel) (ad_cons (pd_var 0) ad_nil)) pd_int))))) (sd_one (sd_ret pd_bl)) sd_nil) (sd_cons (sd_if (td_cmp (c_neX hr.units) o_neX (by first | exact nobehind _ (by decide) (by decide) | rfl) (pd_lc rfl sc_w_k24_is.nd (id_any (pd_var 0)) (blkOk_by (own := [("one", 1)]) (by kernel_rfl)) (fun p => (gd_name (i := 1) sc_w_k24_is.nd rfl (by first | exact .inl rfl | exact .inr rfl))) (fun p => (tsd_one (td_cmp op_gt o_gt (by first | exact nobehind _ (by decide) (by decide) | rfl) (pd_cal (ps := ["value", "deep"]) h_w_k24_nodes (hr.mono (by decide)) L2.takes0 (LenA.cons (LenA.cons LenA.nil)) (ad_cons (pd_var 1) (ad_cons pd_int ad_nil))) pd_int))) (fun p => (pd_var 1))) (pd_lst ad_nil)) (sd_one (sd_ret pd_bl)) sd_nil) (sd_cons (sd_new (i := 2) sc_w_k24_is.nd rfl (by first | exact .inl rfl | exact .inr rfl) ad_nil) (sd_cons (sd_for (passes_of rfl) rfl (id_any (pd_var 0)) (gd_name (i := 1) sc_w_k24_is.nd rfl (by first | exact .inl rfl | exact .inr rfl)) (sd_cons (sd_if (td_peek (i := 2) (td_w (wd_or (td_cmp (op_inA (units65 hr)) o_inA (by first | exact nobehind _ (by decide) (by decide) | rfl) (pd_var 1) (pd_var 2)) (wd_or1 (td_cmp (c_neX hr.units) o_neX (by first | exact nobehind _ (by decide) (by decide) | rfl) (pd_lc rfl sc_w_k24_is.nd (id_any (pd_cal (ps := ["one"]) h_w_fp_needs (hr.mono (by decide)) tk (LenA.cons LenA.nil) (ad_cons (pd_var 1) ad_nil))) (blkOk_by (own := [("need", 3)]) (by kernel_rfl)) (fun p => (gd_name (i := 3) sc_w_k24_is.nd rfl (by first | exact .inl rfl | exact .inr rfl))) (fun p => (tsd_one (td_cmp (op_notInA (units65 hr)) o_inA (by first | exact nobehind _ (by decide) (by decide) | rfl) (pd_var 3) (pd_var 2)))) (fun p => (pd_var 3))) (pd_lst ad_nil)))))) (sd_one (sd_ret pd_bl)) sd_nil) (sd_one (sd_app (i := 2) rfl (pd_var 1))))) (sd_one (sd_ret pd_bl))))))) (fun _ _ _ _ _ _ us hl => match us, hl with | [_], _ => rfl)
def g_w_k24_great : EvS := (sSeq (sSet 2 (eOpN gTup (aCons (eC (.str "label")) (aCons (eOp2 gAdd (eC (.str "z")) (eOpN gStrI (aCons (eVar 1) aNil))) aNil)))) (sSeq (sIf (tB (eOp2 gEqX (eCall drawF (aCons (eVar 0) (aCons (eC (.int 3)) aNil))) (eC (.int 0)))) (sSeq (sFor (iRange (aCons (eOp2 gAdd (eC (.int 10)) (eCall drawF (aCons (eVar 0) (aCons (eC (.int 3)) aNil)))) aNil)) (gdName 3) (sSet 2 (eOpN gTup (aCons (eC (.str "not")) (aCons (eVar 2) aNil))))) (sRet (eVar 2))) sNext) (sSeq (sFor (iRange (aCons (eOp2 gAdd (eC (.int 3)) (eCall drawF (aCons (eVar 0) (aCons (eC (.int 4)) aNil)))) aNil)) (gdName 3) (sSet 2 (eOpN gTup (aCons (eC (.str "not")) (aCons (eVar 2) aNil))))) (sSeq (sNew 4 aNil) (sSeq (sFor (iRange (aCons (eC (.int 3)) aNil)) (gdName 3) (sSeq (sSet 5 (eCall pickF (aCons (eVar 0) (aCons (eOpN gLst (aCons (eC (.str "self")) (aCons (eC (.str "child")) (aCons (eC (.str "below")) aNil)))) aNil)))) (sSeq (sSet 6 (eComp (iRange (aCons (eC (.int 8)) aNil)) (gdName 7) tTrue (eOpN gTup (aCons (eVar 5) (aCons (eOpN gTup (aCons (eC (.str "label")) (aCons (eOp2 gAdd (eOp2 gAdd (eOp2 gAdd (eOp2 gAdd (eOp2 gAdd (eC (.str "n")) (eOpN gStrI (aCons (eVar 1) aNil))) (eC (.str "_"))) (eOpN gStrI (aCons (eVar 3) aNil))) (eC (.str "_"))) (eOpN gStrI (aCons (eVar 7) aNil))) aNil))) aNil))) [7])) (sApp 4 (eOpN gTup (aCons (eC (.str "some")) (aCons (eOpN gTuple (aCons (eVar 6) aNil)) aNil))))))) (frz 4 (sRet (eOpN gTup (aCons (eC (.str "or")) (aCons (eOpN gTup (aCons (eC (.str "and")) (aCons (eOp2 gIx (eVar 4) (eC (.int 0))) (aCons (eOpN gTup (aCons (eC (.str "or")) (aCons (eOp2 gIx (eVar 4) (eC (.int 1))) (aCons (eOp2 gIx (eVar 4) (eC (.int 2))) aNil)))) aNil)))) (aCons (eVar 2) aNil)))))))))))
def f_w_k24_great : List D → Om → Rs D := runB 8 g_w_k24_great
theorem r_w_k24_great (fx : Fx w K mg base) (h_w_draw : Cal Pr w K mg base "_law_draw" 2 ["state", "size_here"] (PD (TT K)) drawF) (h_w_pick : Cal Pr w K mg base "_law_pick" 3 ["state", "several"] (PD (TT K)) pickF) : Cal Pr w K mg base "_law_k24_great" 4 ["state", "turn"] (PD (TT K)) (f_w_k24_great) := by
  obtain ⟨fd, F⟩ := fx.f_w_k24_great
  exact cal_of (N := ["state", "turn", "one", "lap", "rows", "axis", "steps", "at"]) (g := g_w_k24_great) F fx.m_w_k24_great sc_w_k24_great rfl (fun cdv ecd A outer s H E hr tk => (sd_cons (sd_set (i := 2) sc_w_k24_great.nd rfl (by first | exact .inl rfl | exact .inr rfl) (pd_tup (ad_cons pd_str (ad_cons (pd_op op_addA op2_add pd_str (pd_callTy call_str_int o_strI fx.n_str (by decide +kernel) (ad_cons (pd_var 1) ad_nil))) ad_nil)))) (sd_cons (sd_if (td_cmp (c_eqX hr.units) o_eqX (by first | exact nobehind _ (by decide) (by decide) | rfl) (pd_cal (ps := ["state", "size_here"]) h_w_draw (hr.mono (by decide)) tk (LenA.cons (LenA.cons LenA.nil)) (ad_cons (pd_var 0) (ad_cons pd_int ad_nil))) pd_int) (sd_cons (sd_for (passes_of rfl) rfl (id_range fx.n_range (ad_cons (pd_op op_addA op2_add pd_int (pd_cal (ps := ["state", "size_here"]) h_w_draw (hr.mono (by decide)) tk (LenA.cons (LenA.cons LenA.nil)) (ad_cons (pd_var 0) (ad_cons pd_int ad_nil)))) ad_nil)) (gd_name (i := 3) sc_w_k24_great.nd rfl (by first | exact .inl rfl | exact .inr rfl)) (sd_one (sd_set (i := 2) sc_w_k24_great.nd rfl (by first | exact .inl rfl | exact .inr rfl) (pd_tup (ad_cons pd_str (ad_cons (pd_var 2) ad_nil)))))) (sd_one (sd_ret (pd_var 2)))) sd_nil) (sd_cons (sd_for (passes_of rfl) rfl (id_range fx.n_range (ad_cons (pd_op op_addA op2_add pd_int (pd_cal (ps := ["state", "size_here"]) h_w_draw (hr.mono (by decide)) tk (LenA.cons (LenA.cons LenA.nil)) (ad_cons (pd_var 0) (ad_cons pd_int ad_nil)))) ad_nil)) (gd_name (i := 3) sc_w_k24_great.nd rfl (by first | exact .inl rfl | exact .inr rfl)) (sd_one (sd_set (i := 2) sc_w_k24_great.nd rfl (by first | exact .inl rfl | exact .inr rfl) (pd_tup (ad_cons pd_str (ad_cons (pd_var 2) ad_nil)))))) (sd_cons (sd_new (i := 4) sc_w_k24_great.nd rfl (by first | exact .inl rfl | exact .inr rfl) ad_nil) (sd_cons (sd_for (passes_of rfl) rfl (id_range fx.n_range (ad_cons pd_int ad_nil)) (gd_name (i := 3) sc_w_k24_great.nd rfl (by first | exact .inl rfl | exact .inr rfl)) (sd_cons (sd_set (i := 5) sc_w_k24_great.nd rfl (by first | exact .inl rfl | exact .inr rfl) (pd_cal (ps := ["state", "several"]) h_w_pick (hr.mono (by decide)) tk (LenA.cons (LenA.cons LenA.nil)) (ad_cons (pd_var 0) (ad_cons (pd_lst (ad_cons pd_str (ad_cons pd_str (ad_cons pd_str ad_nil)))) ad_nil)))) (sd_cons (sd_setLc (i := 6) rfl sc_w_k24_great.nd rfl rfl (by first | rfl | exact sw_true rfl rfl rfl rfl) (id_range fx.n_range (ad_cons pd_int ad_nil)) (blkOk_by (own := [("at", 7)]) (by kernel_rfl)) (fun p => (gd_name (i := 7) sc_w_k24_great.nd rfl (by first | exact .inl rfl | exact .inr rfl))) (fun p => tsd_nil) (fun p => (pd_tup (ad_cons (pd_var 5) (ad_cons (pd_tup (ad_cons pd_str (ad_cons (pd_op op_addA op2_add (pd_op op_addA op2_add (pd_op op_addA op2_add (pd_op op_addA op2_add (pd_op op_addA op2_add pd_str (pd_callTy call_str_int o_strI fx.n_str (by decide +kernel) (ad_cons (pd_var 1) ad_nil))) pd_str) (pd_callTy call_str_int o_strI fx.n_str (by decide +kernel) (ad_cons (pd_var 3) ad_nil))) pd_str) (pd_callTy call_str_int o_strI fx.n_str (by decide +kernel) (ad_cons (pd_var 7) ad_nil))) ad_nil))) ad_nil))))) (sd_one (sd_app (i := 4) rfl (pd_tup (ad_cons pd_str (ad_cons (pd_callTy call_tuple_of opn_tuple fx.n_tuple (by decide +kernel) (ad_cons (pd_var 6) ad_nil)) ad_nil)))))))) (sd_frz (i := 4) (sd_one (sd_ret (pd_tup (ad_cons pd_str (ad_cons (pd_tup (ad_cons pd_str (ad_cons (pd_ix ix_seq op2_ix (pd_var 4) pd_int) (ad_cons (pd_tup (ad_cons pd_str (ad_cons (pd_ix ix_seq op2_ix (pd_var 4) pd_int) (ad_cons (pd_ix ix_seq op2_ix (pd_var 4) pd_int) ad_nil)))) ad_nil)))) (ad_cons (pd_var 2) ad_nil))))))))))))) (fun _ _ _ _ _ _ us hl => match us, hl with | [_, _], _ => rfl)
def g_w_k24_exchanged : EvS := (sSeq (sParLN 2 3 (aCons (eVar 1) aNil)) (sSeq (sFor (iRange (aCons (eOpN gLen (aCons (eVar 1) aNil)) aNil)) (gdName 4) (sSeq (sSet 5 (eComp (iOwn 2) (gdName 6) (tPeek 3 (tB (eOp2 gEqX (eComp (iAny (eCall f_w_fp_needs (aCons (eVar 6) aNil))) (gdName 7) (tB (eOp2 (gInA true) (eVar 7) (eVar 3))) (eVar 7) [7]) (eOpN gLst aNil)))) (eVar 6) [6])) (sSeq (sApp 3 (eCall pickF (aCons (eVar 0) (aCons (eVar 5) aNil)))) (sRem 2 (ePeek 3 (eOp2 gIx (eVar 3) (eOp1 gNeg (eC (.int 1))))))))) (frz 3 (sRet (eOpN gTuple (aCons (eVar 3) aNil))))))
def f_w_k24_exchanged : List D → Om → Rs D := runB 8 g_w_k24_exchanged
theorem r_w_k24_exchanged (fx : Fx w K mg base) (h_w_fp_needs : Cal Pr w K mg base "_law_fp_needs" 1 ["one"] (PD (TT K)) f_w_fp_needs) (h_w_pick : Cal Pr w K mg base "_law_pick" 3 ["state", "several"] (PD (TT K)) pickF) : Cal Pr w K mg base "_law_k24_exchanged" 4 ["state", "demands"] (PD (TT K)) (f_w_k24_exchanged) := by
  obtain ⟨fd, F⟩ := fx.f_w_k24_exchanged
  exact cal_of (N := ["state", "demands", "left", "found", "turn", "free", "one", "need"]) (g := g_w_k24_exchanged) F fx.m_w_k24_exchanged sc_w_k24_exchanged rfl (fun cdv ecd A outer s H E hr tk => (sd_cons (sd_parLNc (i := 2) (j := 3) rfl sc_w_k24_exchanged.nd rfl rfl (by decide) (by first | exact .inl rfl | exact .inr rfl) (by first | exact .inl rfl | exact .inr rfl) (by first | exact .inl rfl | exact .inr rfl) (by first | exact .inl rfl | exact .inr rfl) fx.n_list (ad_cons (pd_var 1) ad_nil)) (sd_cons (sd_for (passes_of rfl) rfl (id_range fx.n_range (ad_cons (pd_callB call_len opn_len fx.n_len (by decide +kernel) (ad_cons (pd_var 1) ad_nil)) ad_nil)) (gd_name (i := 4) sc_w_k24_exchanged.nd rfl (by first | exact .inl rfl | exact .inr rfl)) (sd_cons (sd_setLcC (i := 5) rfl sc_w_k24_exchanged.nd rfl rfl (by first | rfl | exact sw_true rfl rfl rfl rfl) (ic_own (i := 2) rfl) (blkOk_by (own := [("one", 6)]) (by kernel_rfl)) (fun p => (gd_name (i := 6) sc_w_k24_exchanged.nd rfl (by first | exact .inl rfl | exact .inr rfl))) (fun p => (tsd_one (td_peek (i := 3) (td_cmp (c_eqX hr.units) o_eqX (by first | exact nobehind _ (by decide) (by decide) | rfl) (pd_lc rfl sc_w_k24_exchanged.nd (id_any (pd_cal (ps := ["one"]) h_w_fp_needs (hr.mono (by decide)) L2.takes0 (LenA.cons LenA.nil) (ad_cons (pd_var 6) ad_nil))) (blkOk_by (own := [("need", 7)]) (by kernel_rfl)) (fun pp => (gd_name (i := 7) sc_w_k24_exchanged.nd rfl (by first | exact .inl rfl | exact .inr rfl))) (fun pp => (tsd_one (td_cmp (op_notInA (units65 hr)) o_inA (by first | exact nobehind _ (by decide) (by decide) | rfl) (pd_var 7) (pd_var 3)))) (fun pp => (pd_var 7))) (pd_lst ad_nil))))) (fun p => (pd_var 6))) (sd_cons (sd_app (i := 3) rfl (pd_cal (ps := ["state", "several"]) h_w_pick (hr.mono (by decide)) tk (LenA.cons (LenA.cons LenA.nil)) (ad_cons (pd_var 0) (ad_cons (pd_var 5) ad_nil)))) (sd_one (sd_rem (i := 2) (units65 hr) rfl (pd_peek (i := 3) (pd_ix ix_seq op2_ix (pd_var 3) (pd_un un_neg o_neg pd_int)))))))) (sd_frz (i := 3) (sd_one (sd_ret (pd_callTy call_tuple_of opn_tuple fx.n_tuple (by decide +kernel) (ad_cons (pd_var 3) ad_nil)))))))) (fun _ _ _ _ _ _ us hl => match us, hl with | [_, _], _ => rfl)
def g_law : EvS := (sSeq (sSet 2 (eOp2 gEqX (eCall drawF (aCons (eVar 1) (aCons (eC (.int 6)) aNil))) (eC (.int 0)))) (sSeq (sNew 3 aNil) (sSeq (sFor (iRange (aCons (eOp2 gAdd (eC (.int 1)) (eCall drawF (aCons (eVar 1) (aCons (eC (.int 11)) aNil)))) aNil)) (gdName 4) (sApp 3 (eIf (tB (eVar 2)) (eCall f_w_k24_great (aCons (eVar 1) (aCons (eVar 4) aNil))) (eCall (f_w_tr_filter 5) (aCons (eVar 1) (aCons (eCall drawF (aCons (eVar 1) (aCons (eC (.int 4)) aNil))) aNil)))))) (sSeq (sIf (tB (eOp2 gEqX (eCall drawF (aCons (eVar 1) (aCons (eC (.int 3)) aNil))) (eC (.int 0)))) (sApp 3 (ePeek 3 (eOp2 gIx (eVar 3) (eC (.int 0))))) sNext) (frz 3 (sSeq (sSet 3 (eOpN gTuple (aCons (eVar 3) aNil))) (sSeq (sFor (iAny (eVar 3)) (gdName 5) (sSeq (sIf (tB (eOp2 gGt (eCall (f_w_k24_nodes 14) (aCons (eVar 5) (aCons (eC (.int 12)) aNil))) (eC (.int 60)))) (sSeq (sIf (tNot (tB (eOpN (gIsc kb) (aCons (eCaught isx (eCall f_demands_of (aCons (eVar 3) aNil))) (aCons (eC (.glo "BadFilter")) aNil))))) (sRet (eC (.bl false))) sNext) (sRet (eOpN (gIsc kb) (aCons (eCaught isx (eCall f_needs_of (aCons (eVar 5) aNil))) (aCons (eC (.glo "BadFilter")) aNil))))) sNext) (sIf (tNot (tB (eCall (f_w_fp_same 64) (aCons (eCall f_needs_of (aCons (eVar 5) aNil)) (aCons (eOpN gTuple (aCons (eCall f_w_fp_needs (aCons (eVar 5) aNil)) aNil)) aNil))))) (sRet (eC (.bl false))) sNext))) (sSeq (sSet 6 (eCall f_w_fp_demands (aCons (eVar 3) aNil))) (sSeq (sIf (tOr (tNot (tB (eCall (f_w_fp_same 64) (aCons (eCall f_demands_of (aCons (eVar 3) aNil)) (aCons (eVar 6) aNil))))) (tNot (tB (eCall f_w_is_truth (aCons (eCall f_is_demands (aCons (eVar 6) aNil)) (aCons (eC (.bl true)) aNil)))))) (sRet (eC (.bl false))) sNext) (sSeq (sIf (tB (eOp2 gLeA (eOpN gLen (aCons (eVar 6) aNil)) (eC (.int 60)))) (sSeq (sIf (tNot (tB (eCall f_w_is_truth (aCons (eCall f_is_demands (aCons (eCall f_w_k24_exchanged (aCons (eVar 1) (aCons (eVar 6) aNil))) aNil)) (aCons (eC (.bl true)) aNil))))) (sRet (eC (.bl false))) sNext) (sFor (iRange (aCons (eC (.int 3)) aNil)) (gdName 4) (sSeq (sSet 7 (eCall (f_w_bent 48) (aCons (eVar 1) (aCons (eVar 6) aNil)))) (sIf (tNot (tB (eCall f_w_is_truth (aCons (eCall f_is_demands (aCons (eVar 7) aNil)) (aCons (eCall f_w_k24_is (aCons (eVar 7) aNil)) aNil))))) (sRet (eC (.bl false))) sNext)))) sNext) (sSeq (sIf (tB (eOp2 gEqX (eCall drawF (aCons (eVar 1) (aCons (eC (.int 6)) aNil))) (eC (.int 0)))) (sSeq (sSet 8 (eOpN gTuple (aCons (eComp (iRange (aCons (eOp2 gAdd (eC (.int 800)) (eCall drawF (aCons (eVar 1) (aCons (eC (.int 2)) aNil)))) aNil)) (gdName 9) tTrue (eOpN gTup (aCons (eC (.str "label")) (aCons (eOp2 gAdd (eC (.str "n")) (eOpN gStrI (aCons (eVar 9) aNil))) aNil))) [9]) aNil))) (sIf (tNot (tB (eCall f_w_is_truth (aCons (eCall f_is_demands (aCons (eVar 8) aNil)) (aCons (eOp2 gEqX (eOpN gLen (aCons (eVar 8) aNil)) (eC (.int 800))) aNil))))) (sRet (eC (.bl false))) sNext)) sNext) (sSeq (sSet 10 (eCall pickF (aCons (eVar 1) (aCons (eOpN gLst (aCons (eOpN gTup aNil) (aCons (eOpN gList (aCons (eVar 3) aNil)) (aCons (eOp2 gAdd (eVar 3) (eOpN gTup (aCons (eC .non) aNil))) (aCons (eOp2 gRepT (eOpN gTup (aCons (eOp2 gIx (eVar 3) (eC (.int 0))) aNil)) (eC (.int 13))) (aCons (eC .non) (aCons (eOpN gTup (aCons (eC (.str "true")) aNil)) (aCons (eOp2 gAdd (eVar 3) (eOpN gTup (aCons (eOpN gTup (aCons (eC (.str "label")) (aCons (eC (.str "B")) aNil))) aNil))) aNil)))))))) aNil)))) (sSeq (sIf (tNot (tB (eOpN (gIsc kb) (aCons (eCaught isx (eCall f_demands_of (aCons (eVar 10) aNil))) (aCons (eC (.glo "BadFilter")) aNil))))) (sRet (eC (.bl false))) sNext) (sRet (eOpN (gIsc kb) (aCons (eCaught isx (eCall f_needs_of (aCons (eCall pickF (aCons (eVar 1) (aCons (eOpN gLst (aCons (eC .non) (aCons (eOpN gTup aNil) (aCons (eOpN gTup (aCons (eC (.str "label")) aNil)) (aCons (eOpN gLst (aCons (eC (.str "true")) aNil)) (aCons (eOpN gTup (aCons (eC (.str "some")) (aCons (eOpN gTup (aCons (eOpN gTup (aCons (eC (.str "up")) (aCons (eOpN gTup (aCons (eC (.str "true")) aNil)) aNil))) aNil)) aNil))) aNil)))))) aNil))) aNil))) (aCons (eC (.glo "BadFilter")) aNil)))))))))))))))))
theorem r_law (fx : Fx w K mg base) (hB : ∃ fd, FnOk Pr w K mg base (L2.CX Pr w) 1 (He.ga K "_law_begun") fd ["script"] (spBegun K (TT K)) ∧ Binds K fd ["script"] [] ∧ PySem.W.keepIn K (.ref (He.ga K "_law_begun")) = true) (h_w_bent : Cal Pr w K mg base "_law_bent" 52 ["state", "item"] (PD (TT K)) (f_w_bent 48)) (h_w_draw : Cal Pr w K mg base "_law_draw" 2 ["state", "size_here"] (PD (TT K)) drawF) (h_w_fp_demands : Cal Pr w K mg base "_law_fp_demands" 2 ["filters"] (PD (TT K)) f_w_fp_demands) (h_w_fp_needs : Cal Pr w K mg base "_law_fp_needs" 1 ["one"] (PD (TT K)) f_w_fp_needs) (h_w_fp_same : Cal Pr w K mg base "_law_fp_same" 65 ["found", "due"] (PD (TT K)) (f_w_fp_same 64)) (h_w_is_truth : Cal Pr w K mg base "_law_is_truth" 1 ["found", "due"] (PD (TT K)) f_w_is_truth) (h_w_k24_exchanged : Cal Pr w K mg base "_law_k24_exchanged" 4 ["state", "demands"] (PD (TT K)) f_w_k24_exchanged) (h_w_k24_great : Cal Pr w K mg base "_law_k24_great" 4 ["state", "turn"] (PD (TT K)) f_w_k24_great) (h_w_k24_is : Cal Pr w K mg base "_law_k24_is" 30 ["value"] (PD (TT K)) f_w_k24_is) (h_w_k24_nodes : Cal Pr w K mg base "_law_k24_nodes" 29 ["value", "deep"] (PD (TT K)) (f_w_k24_nodes 14)) (h_w_pick : Cal Pr w K mg base "_law_pick" 3 ["state", "several"] (PD (TT K)) pickF) (h_w_tr_filter : Cal Pr w K mg base "_law_tr_filter" 13 ["state", "deep"] (PD (TT K)) (f_w_tr_filter 5)) (h_demands_of : Cal Pr w K mg base "demands_of" 66 ["filters"] (PD (TT K)) f_demands_of) (h_is_demands : Cal Pr w K mg base "is_demands" 32 ["value"] (PD (TT K)) f_is_demands) (h_needs_of : Cal Pr w K mg base "needs_of" 32 ["one"] (PD (TT K)) f_needs_of) : ∀ fd, FunD K "law" "law" (defArgs t_law) (defBody t_law) (defScope t_law) [] [] (He.ga K "law") fd → FnOk Pr w K mg base (L2.CX Pr w) 113 (He.ga K "law") fd ["script"] (spLaw K (TT K) 9 g_law) := by
  obtain ⟨fdc, Fc⟩ := fx.f_w_caught
  have Bc := FunD.bindsN (ps := ["work"]) Fc fun _ _ _ _ _ _ us hl => match us, hl with | [_], _ => rfl
  obtain ⟨oc, od, dV, kV, doc, pm, an, cg, ct, osl, rfl, lkc, hcg, _, _⟩ := Fc.ex
  intro fd F
  obtain ⟨fdb, FB, BB, kB⟩ := hB
  exact law_okC (N := ["is_great", "filters", "turn", "one", "demands", "bent", "labels", "at", "odd"]) (g := g_law) F sc_law (fun cdv ecd A outer s H E hr tk => ⟨_, _, rfl, ps_begun FB (hr.mono (by decide)) fx.m_w_begun kB BB tk sc_law.nd rfl rfl (by first | exact .inl rfl | exact .inr (.inl rfl)) (by first | exact .inl rfl | exact .inr rfl) (by first | exact .inl rfl | exact .inr rfl), (sd_cons (sd_set (i := 2) sc_law.nd rfl (by first | exact .inl rfl | exact .inr rfl) (pd_cmp (c_eqX hr.units) o_eqX (by first | exact nobehind _ (by decide) (by decide) | rfl) (pd_cal (ps := ["state", "size_here"]) h_w_draw (hr.mono (by decide)) tk (LenA.cons (LenA.cons LenA.nil)) (ad_cons (pd_var 1) (ad_cons pd_int ad_nil))) pd_int)) (sd_cons (sd_new (i := 3) sc_law.nd rfl (by first | exact .inl rfl | exact .inr rfl) ad_nil) (sd_cons (sd_for (passes_of rfl) rfl (id_range fx.n_range (ad_cons (pd_op op_addA op2_add pd_int (pd_cal (ps := ["state", "size_here"]) h_w_draw (hr.mono (by decide)) tk (LenA.cons (LenA.cons LenA.nil)) (ad_cons (pd_var 1) (ad_cons pd_int ad_nil)))) ad_nil)) (gd_name (i := 4) sc_law.nd rfl (by first | exact .inl rfl | exact .inr rfl)) (sd_one (sd_app (i := 3) rfl (pd_if (td_val (pd_var 2)) (pd_cal (ps := ["state", "turn"]) h_w_k24_great (hr.mono (by decide)) tk (LenA.cons (LenA.cons LenA.nil)) (ad_cons (pd_var 1) (ad_cons (pd_var 4) ad_nil))) (pd_cal (ps := ["state", "deep"]) h_w_tr_filter (hr.mono (by decide)) tk (LenA.cons (LenA.cons LenA.nil)) (ad_cons (pd_var 1) (ad_cons (pd_cal (ps := ["state", "size_here"]) h_w_draw (hr.mono (by decide)) tk (LenA.cons (LenA.cons LenA.nil)) (ad_cons (pd_var 1) (ad_cons pd_int ad_nil))) ad_nil))))))) (sd_cons (sd_if (td_cmp (c_eqX hr.units) o_eqX (by first | exact nobehind _ (by decide) (by decide) | rfl) (pd_cal (ps := ["state", "size_here"]) h_w_draw (hr.mono (by decide)) tk (LenA.cons (LenA.cons LenA.nil)) (ad_cons (pd_var 1) (ad_cons pd_int ad_nil))) pd_int) (sd_one (sd_app (i := 3) rfl (pd_peek (i := 3) (pd_ix ix_seq op2_ix (pd_var 3) pd_int)))) sd_nil) (sd_frz (i := 3) (sd_cons (sd_set (i := 3) sc_law.nd rfl (by first | exact .inl rfl | exact .inr rfl) (pd_callTy call_tuple_of opn_tuple fx.n_tuple (by decide +kernel) (ad_cons (pd_var 3) ad_nil))) (sd_cons (sd_for (passes_of rfl) rfl (id_any (pd_var 3)) (gd_name (i := 5) sc_law.nd rfl (by first | exact .inl rfl | exact .inr rfl)) (sd_cons (sd_if (td_cmp op_gt o_gt (by first | exact nobehind _ (by decide) (by decide) | rfl) (pd_cal (ps := ["value", "deep"]) h_w_k24_nodes (hr.mono (by decide)) tk (LenA.cons (LenA.cons LenA.nil)) (ad_cons (pd_var 5) (ad_cons pd_int ad_nil))) pd_int) (sd_cons (sd_if (td_not (td_val (pd_callB c_isc (o_isc fx.kb fx.xc kb_cs) fx.n_isinstance (by decide +kernel) (ad_cons (pd_caught (k := 110) (T := TT K) fx.m_w_caught Fc.kp lkc hcg Bc fx.m_LeafError fx.isx (fx.tb_law) ecd (by first | exact List.mem_cons_self | exact List.mem_cons_of_mem _ List.mem_cons_self | simp [TT]) fx.hu_law (hr.mono (by decide)) (lamS_by (by kernel_rfl)) (fun _ _ _ => PD.tabs) (fun A outer s H E f c' hrl tkl => (pd_cal (ps := ["filters"]) h_demands_of (hrl.mono (by decide)) tkl (LenA.cons LenA.nil) (ad_cons (pd_var 3) ad_nil)))) (ad_cons (pd_own fx.m_BadFilter) ad_nil))))) (sd_one (sd_ret pd_bl)) sd_nil) (sd_one (sd_ret (pd_callB c_isc (o_isc fx.kb fx.xc kb_cs) fx.n_isinstance (by decide +kernel) (ad_cons (pd_caught (k := 110) (T := TT K) fx.m_w_caught Fc.kp lkc hcg Bc fx.m_LeafError fx.isx (fx.tb_law) ecd (by first | exact List.mem_cons_self | exact List.mem_cons_of_mem _ List.mem_cons_self | simp [TT]) fx.hu_law (hr.mono (by decide)) (lamS_by (by kernel_rfl)) (fun _ _ _ => PD.tabs) (fun A outer s H E f c' hrl tkl => (pd_cal (ps := ["one"]) h_needs_of (hrl.mono (by decide)) tkl (LenA.cons LenA.nil) (ad_cons (pd_var 5) ad_nil)))) (ad_cons (pd_own fx.m_BadFilter) ad_nil)))))) sd_nil) (sd_one (sd_if (td_not (td_val (pd_cal (ps := ["found", "due"]) h_w_fp_same (hr.mono (by decide)) tk (LenA.cons (LenA.cons LenA.nil)) (ad_cons (pd_cal (ps := ["one"]) h_needs_of (hr.mono (by decide)) tk (LenA.cons LenA.nil) (ad_cons (pd_var 5) ad_nil)) (ad_cons (pd_callTy call_tuple_of opn_tuple fx.n_tuple (by decide +kernel) (ad_cons (pd_cal (ps := ["one"]) h_w_fp_needs (hr.mono (by decide)) tk (LenA.cons LenA.nil) (ad_cons (pd_var 5) ad_nil)) ad_nil)) ad_nil))))) (sd_one (sd_ret pd_bl)) sd_nil)))) (sd_cons (sd_set (i := 6) sc_law.nd rfl (by first | exact .inl rfl | exact .inr rfl) (pd_cal (ps := ["filters"]) h_w_fp_demands (hr.mono (by decide)) tk (LenA.cons LenA.nil) (ad_cons (pd_var 3) ad_nil))) (sd_cons (sd_if (td_w (wd_or (td_not (td_val (pd_cal (ps := ["found", "due"]) h_w_fp_same (hr.mono (by decide)) tk (LenA.cons (LenA.cons LenA.nil)) (ad_cons (pd_cal (ps := ["filters"]) h_demands_of (hr.mono (by decide)) tk (LenA.cons LenA.nil) (ad_cons (pd_var 3) ad_nil)) (ad_cons (pd_var 6) ad_nil))))) (wd_or1 (td_not (td_val (pd_cal (ps := ["found", "due"]) h_w_is_truth (hr.mono (by decide)) tk (LenA.cons (LenA.cons LenA.nil)) (ad_cons (pd_cal (ps := ["value"]) h_is_demands (hr.mono (by decide)) tk (LenA.cons LenA.nil) (ad_cons (pd_var 6) ad_nil)) (ad_cons pd_bl ad_nil)))))))) (sd_one (sd_ret pd_bl)) sd_nil) (sd_cons (sd_if (td_cmp c_le o_leA (by first | exact nobehind _ (by decide) (by decide) | rfl) (pd_callB call_len opn_len fx.n_len (by decide +kernel) (ad_cons (pd_var 6) ad_nil)) pd_int) (sd_cons (sd_if (td_not (td_val (pd_cal (ps := ["found", "due"]) h_w_is_truth (hr.mono (by decide)) tk (LenA.cons (LenA.cons LenA.nil)) (ad_cons (pd_cal (ps := ["value"]) h_is_demands (hr.mono (by decide)) tk (LenA.cons LenA.nil) (ad_cons (pd_cal (ps := ["state", "demands"]) h_w_k24_exchanged (hr.mono (by decide)) tk (LenA.cons (LenA.cons LenA.nil)) (ad_cons (pd_var 1) (ad_cons (pd_var 6) ad_nil))) ad_nil)) (ad_cons pd_bl ad_nil))))) (sd_one (sd_ret pd_bl)) sd_nil) (sd_one (sd_for (passes_of rfl) rfl (id_range fx.n_range (ad_cons pd_int ad_nil)) (gd_name (i := 4) sc_law.nd rfl (by first | exact .inl rfl | exact .inr rfl)) (sd_cons (sd_set (i := 7) sc_law.nd rfl (by first | exact .inl rfl | exact .inr rfl) (pd_cal (ps := ["state", "item"]) h_w_bent (hr.mono (by decide)) tk (LenA.cons (LenA.cons LenA.nil)) (ad_cons (pd_var 1) (ad_cons (pd_var 6) ad_nil)))) (sd_one (sd_if (td_not (td_val (pd_cal (ps := ["found", "due"]) h_w_is_truth (hr.mono (by decide)) tk (LenA.cons (LenA.cons LenA.nil)) (ad_cons (pd_cal (ps := ["value"]) h_is_demands (hr.mono (by decide)) tk (LenA.cons LenA.nil) (ad_cons (pd_var 7) ad_nil)) (ad_cons (pd_cal (ps := ["value"]) h_w_k24_is (hr.mono (by decide)) tk (LenA.cons LenA.nil) (ad_cons (pd_var 7) ad_nil)) ad_nil))))) (sd_one (sd_ret pd_bl)) sd_nil)))))) sd_nil) (sd_cons (sd_if (td_cmp (c_eqX hr.units) o_eqX (by first | exact nobehind _ (by decide) (by decide) | rfl) (pd_cal (ps := ["state", "size_here"]) h_w_draw (hr.mono (by decide)) tk (LenA.cons (LenA.cons LenA.nil)) (ad_cons (pd_var 1) (ad_cons pd_int ad_nil))) pd_int) (sd_cons (sd_set (i := 8) sc_law.nd rfl (by first | exact .inl rfl | exact .inr rfl) (pd_callTy call_tuple_of opn_tuple fx.n_tuple (by decide +kernel) (ad_cons (pd_lc rfl sc_law.nd (id_range fx.n_range (ad_cons (pd_op op_addA op2_add pd_int (pd_cal (ps := ["state", "size_here"]) h_w_draw (hr.mono (by decide)) tk (LenA.cons (LenA.cons LenA.nil)) (ad_cons (pd_var 1) (ad_cons pd_int ad_nil)))) ad_nil)) (blkOk_by (own := [("at", 9)]) (by kernel_rfl)) (fun p => (gd_name (i := 9) sc_law.nd rfl (by first | exact .inl rfl | exact .inr rfl))) (fun p => tsd_nil) (fun p => (pd_tup (ad_cons pd_str (ad_cons (pd_op op_addA op2_add pd_str (pd_callTy call_str_int o_strI fx.n_str (by decide +kernel) (ad_cons (pd_var 9) ad_nil))) ad_nil))))) ad_nil))) (sd_one (sd_if (td_not (td_val (pd_cal (ps := ["found", "due"]) h_w_is_truth (hr.mono (by decide)) tk (LenA.cons (LenA.cons LenA.nil)) (ad_cons (pd_cal (ps := ["value"]) h_is_demands (hr.mono (by decide)) tk (LenA.cons LenA.nil) (ad_cons (pd_var 8) ad_nil)) (ad_cons (pd_cmp (c_eqX hr.units) o_eqX (by first | exact nobehind _ (by decide) (by decide) | rfl) (pd_callB call_len opn_len fx.n_len (by decide +kernel) (ad_cons (pd_var 8) ad_nil)) pd_int) ad_nil))))) (sd_one (sd_ret pd_bl)) sd_nil))) sd_nil) (sd_cons (sd_set (i := 10) sc_law.nd rfl (by first | exact .inl rfl | exact .inr rfl) (pd_cal (ps := ["state", "several"]) h_w_pick (hr.mono (by decide)) tk (LenA.cons (LenA.cons LenA.nil)) (ad_cons (pd_var 1) (ad_cons (pd_lst (ad_cons (pd_tup ad_nil) (ad_cons (pd_callTy call_list_of opn_list fx.n_list (by decide +kernel) (ad_cons (pd_var 3) ad_nil)) (ad_cons (pd_op op_addA op2_add (pd_var 3) (pd_tup (ad_cons pd_non ad_nil))) (ad_cons (pd_op op_repT o_repT (pd_tup (ad_cons (pd_ix ix_seq op2_ix (pd_var 3) pd_int) ad_nil)) pd_int) (ad_cons pd_non (ad_cons (pd_tup (ad_cons pd_str ad_nil)) (ad_cons (pd_op op_addA op2_add (pd_var 3) (pd_tup (ad_cons (pd_tup (ad_cons pd_str (ad_cons pd_str ad_nil))) ad_nil))) ad_nil)))))))) ad_nil)))) (sd_cons (sd_if (td_not (td_val (pd_callB c_isc (o_isc fx.kb fx.xc kb_cs) fx.n_isinstance (by decide +kernel) (ad_cons (pd_caught (k := 110) (T := TT K) fx.m_w_caught Fc.kp lkc hcg Bc fx.m_LeafError fx.isx (fx.tb_law) ecd (by first | exact List.mem_cons_self | exact List.mem_cons_of_mem _ List.mem_cons_self | simp [TT]) fx.hu_law (hr.mono (by decide)) (lamS_by (by kernel_rfl)) (fun _ _ _ => PD.tabs) (fun A outer s H E f c' hrl tkl => (pd_cal (ps := ["filters"]) h_demands_of (hrl.mono (by decide)) tkl (LenA.cons LenA.nil) (ad_cons (pd_var 10) ad_nil)))) (ad_cons (pd_own fx.m_BadFilter) ad_nil))))) (sd_one (sd_ret pd_bl)) sd_nil) (sd_one (sd_ret (pd_callB c_isc (o_isc fx.kb fx.xc kb_cs) fx.n_isinstance (by decide +kernel) (ad_cons (pd_caught (k := 110) (T := TT K) fx.m_w_caught Fc.kp lkc hcg Bc fx.m_LeafError fx.isx (fx.tb_law) ecd (by first | exact List.mem_cons_self | exact List.mem_cons_of_mem _ List.mem_cons_self | simp [TT]) fx.hu_law (hr.mono (by decide)) (lamS_by (by kernel_rfl)) (fun _ _ _ => PD.tabs) (fun A outer s H E f c' hrl tkl => (pd_cal (ps := ["one"]) h_needs_of (hrl.mono (by decide)) tkl (LenA.cons LenA.nil) (ad_cons (pd_cal (ps := ["state", "several"]) h_w_pick (hrl.mono (by decide)) tkl (LenA.cons (LenA.cons LenA.nil)) (ad_cons (pd_var 1) (ad_cons (pd_lst (ad_cons pd_non (ad_cons (pd_tup ad_nil) (ad_cons (pd_tup (ad_cons pd_str ad_nil)) (ad_cons (pd_lst (ad_cons pd_str ad_nil)) (ad_cons (pd_tup (ad_cons pd_str (ad_cons (pd_tup (ad_cons (pd_tup (ad_cons pd_str (ad_cons (pd_tup (ad_cons pd_str ad_nil)) ad_nil))) ad_nil)) ad_nil))) ad_nil)))))) ad_nil))) ad_nil)))) (ad_cons (pd_own fx.m_BadFilter) ad_nil))))))))))))))))))⟩)
end
end K24

namespace K24
/-! ### what hangs on what, walked two ways -/
section
variable {α : Type} [DecidableEq α] (nd : α → List α) (w : α → Nat)
def gath : Nat → α → List α → List α
  | 0, _, acc => acc
  | n + 1, d, acc => if d ∈ acc then acc else (nd d).foldl (fun a x => gath n x a) acc ++ [d]
def loopS : Nat → List (α × Bool) → List α → Option (List α)
  | 0, _, _ => none
  | _ + 1, [], F => some F
  | n + 1, (h, o) :: S, F => if h ∈ F then loopS n S F else if o = true then loopS n S (F ++ [h]) else loopS n ((nd h).map (fun x => (x, false)) ++ (h, true) :: S) F
def isDem : List α → List α → Bool
  | _, [] => true
  | ahead, d :: r => !decide (d ∈ ahead) && ((nd d).all (fun x => decide (x ∈ ahead)) && isDem (ahead ++ [d]) r)
variable {nd w}
theorem isDem_app : ∀ (l : List α) (ahead : List α) (d : α), isDem nd ahead (l ++ [d]) = (isDem nd ahead l && (!decide (d ∈ ahead ++ l) && (nd d).all (fun x => decide (x ∈ ahead ++ l))))
  | [], ahead, d => by simp [isDem]
  | e :: r, ahead, d => by
    rw [List.cons_append]
    show (!decide (e ∈ ahead) && ((nd e).all (fun x => decide (x ∈ ahead)) && isDem nd (ahead ++ [e]) (r ++ [d]))) = _
    rw [isDem_app r (ahead ++ [e]) d]
    have e1 : ahead ++ [e] ++ r = ahead ++ e :: r := by simp
    rw [e1]
    show _ = ((!decide (e ∈ ahead) && ((nd e).all (fun x => decide (x ∈ ahead)) && isDem nd (ahead ++ [e]) r)) && _)
    simp only [Bool.and_assoc]
theorem isDem_nodup : ∀ (l ahead : List α), isDem nd ahead l = true → l.Nodup ∧ ∀ x ∈ l, x ∉ ahead
  | [], _, _ => ⟨List.nodup_nil, fun x h => nomatch h⟩
  | d :: r, ahead, h => by
    simp only [isDem, Bool.and_eq_true, Bool.not_eq_true', decide_eq_false_iff_not] at h
    obtain ⟨h1, h2, h3⟩ := h
    obtain ⟨i1, i2⟩ := isDem_nodup r _ h3
    refine ⟨List.nodup_cons.mpr ⟨fun hd => i2 d hd (by simp), i1⟩, fun x hx => ?_⟩
    rcases List.mem_cons.mp hx with rfl | hx
    · exact h1
    · exact fun z => i2 x hx (by simp [z])
/-- what stands there has its needs ahead -/
theorem isDem_ahead : ∀ (pre post : List α) (d : α) (ahead : List α), isDem nd ahead (pre ++ d :: post) = true → ∀ x ∈ nd d, x ∈ ahead ++ pre
  | [], post, d, ahead, h, x, hx => by
    simp only [List.nil_append, isDem, Bool.and_eq_true] at h
    simpa using of_decide_eq_true (List.all_eq_true.mp h.2.1 x hx)
  | e :: pre, post, d, ahead, h, x, hx => by
    simp only [List.cons_append, isDem, Bool.and_eq_true] at h
    have := isDem_ahead pre post d _ h.2.2 x hx
    simpa using this
variable (hw : ∀ d, ∀ x ∈ nd d, w x < w d)
include hw
theorem gath_eq : ∀ (n m : Nat) (d : α) (acc : List α), w d < n → w d < m → gath nd n d acc = gath nd m d acc
  | 0, _, _, _, h, _ => absurd h (Nat.not_lt_zero _)
  | _, 0, _, _, _, h => absurd h (Nat.not_lt_zero _)
  | n + 1, m + 1, d, acc, h1, h2 => by
    have key : ∀ (l : List α) (acc : List α), (∀ x ∈ l, w x < w d) → l.foldl (fun a x => gath nd n x a) acc = l.foldl (fun a x => gath nd m x a) acc := by
      intro l
      induction l with
      | nil => exact fun _ _ => rfl
      | cons x r ih =>
        intro acc hx
        have q := hx x (by simp)
        rw [List.foldl_cons, List.foldl_cons, gath_eq n m x acc (by omega) (by omega)]
        exact ih _ fun y hy => hx y (by simp [hy])
    unfold gath
    rw [key _ _ (hw d)]
/-- all at once -/
structure GathP (nd : α → List α) (w : α → Nat) (d : α) (acc R : List α) : Prop where
  sub : ∀ x ∈ acc, x ∈ R
  mem : d ∈ R
  dem : isDem nd [] acc = true → isDem nd [] R = true
  new : ∀ x ∈ R, x ∈ acc ∨ w x ≤ w d
theorem gath_p : ∀ (n : Nat) (d : α) (acc : List α), w d < n → GathP nd w d acc (gath nd n d acc)
  | 0, _, _, h => absurd h (Nat.not_lt_zero _)
  | n + 1, d, acc, h => by
    unfold gath
    by_cases hd : d ∈ acc
    · rw [if_pos hd]
      exact ⟨fun _ hx => hx, hd, id, fun x hx => .inl hx⟩
    · rw [if_neg hd]
      have key : ∀ (l : List α) (acc : List α), (∀ x ∈ l, w x < w d) →
          (∀ x ∈ acc, x ∈ l.foldl (fun a x => gath nd n x a) acc) ∧ (∀ x ∈ l, x ∈ l.foldl (fun a x => gath nd n x a) acc) ∧
          (isDem nd [] acc = true → isDem nd [] (l.foldl (fun a x => gath nd n x a) acc) = true) ∧ (∀ x ∈ l.foldl (fun a x => gath nd n x a) acc, x ∈ acc ∨ w x < w d) := by
        intro l
        induction l with
        | nil => exact fun acc _ => ⟨fun _ hx => hx, fun x hx => (by cases hx), id, fun x hx => .inl hx⟩
        | cons y r ih =>
          intro acc hx
          have q := hx y (by simp)
          have p := gath_p n y acc (by omega)
          obtain ⟨i1, i2, i3, i4⟩ := ih (gath nd n y acc) fun z hz => hx z (by simp [hz])
          refine ⟨fun x h => i1 x (p.sub x h), fun x h => ?_, fun h => i3 (p.dem h), fun x h => ?_⟩
          · rcases List.mem_cons.mp h with rfl | h
            · exact i1 _ p.mem
            · exact i2 x h
          · rcases i4 x h with h | h
            · rcases p.new x h with h | h
              · exact .inl h
              · exact .inr (by omega)
            · exact .inr h
      obtain ⟨k1, k2, k3, k4⟩ := key (nd d) acc (hw d)
      refine ⟨fun x hx => List.mem_append_left _ (k1 x hx), by simp, fun hdm => ?_, fun x hx => ?_⟩
      · rw [isDem_app, k3 hdm]
        simp only [List.nil_append, Bool.true_and, Bool.and_eq_true, Bool.not_eq_true', decide_eq_false_iff_not]
        refine ⟨fun hm => ?_, List.all_eq_true.mpr fun x hx => decide_eq_true (k2 x hx)⟩
        rcases k4 d hm with h | h
        · exact hd h
        · omega
      · rcases List.mem_append.mp hx with hx | hx
        · rcases k4 x hx with h | h
          · exact .inl h
          · exact .inr (by omega)
        · rw [List.mem_singleton.mp hx]
          exact .inr (Nat.le_refl _)
theorem gath_len : ∀ (n : Nat) (d : α) (acc : List α), (∀ d, ((nd d).map w).sum + 1 ≤ w d) → (gath nd n d acc).length ≤ acc.length + w d
  | 0, d, acc, _ => Nat.le_add_right _ _
  | n + 1, d, acc, hs => by
    unfold gath
    split
    · exact Nat.le_add_right _ _
    · have key : ∀ (l : List α) (acc : List α), (l.foldl (fun a x => gath nd n x a) acc).length ≤ acc.length + (l.map w).sum := by
        intro l
        induction l with
        | nil => exact fun acc => by simp
        | cons y r ih =>
          intro acc
          have p := gath_len n y acc hs
          have q := ih (gath nd n y acc)
          rw [List.foldl_cons, List.map_cons, List.sum_cons]
          omega
      have q := key (nd d) acc
      have r := hs d
      rw [List.length_append, List.length_singleton]
      omega
/-- what is gathered keeps what all needs keep -/
theorem gath_all (P : α → Prop) (hP : ∀ d, P d → ∀ x ∈ nd d, P x) : ∀ (n : Nat) (d : α) (acc : List α), P d → (∀ x ∈ acc, P x) → ∀ x ∈ gath nd n d acc, P x
  | 0, d, acc, _, h => h
  | n + 1, d, acc, hd, h => by
    unfold gath
    split
    · exact h
    · have key : ∀ (l : List α) (acc : List α), (∀ x ∈ l, P x) → (∀ x ∈ acc, P x) → ∀ x ∈ l.foldl (fun a x => gath nd n x a) acc, P x := by
        intro l
        induction l with
        | nil => exact fun acc _ h => h
        | cons y r ih => exact fun acc hl h => ih _ (fun z hz => hl z (by simp [hz])) (gath_all P hP n y acc (hl y (by simp)) h)
      intro x hx
      rcases List.mem_append.mp hx with hx | hx
      · exact key _ _ (hP d hd) h x hx
      · rw [List.mem_singleton.mp hx]
        exact hd
/-- the stack does the same -/
theorem loop_gath (hs : ∀ d, ((nd d).map w).sum + 1 ≤ w d) : ∀ (n : Nat) (d : α), w d < n → ∀ (S : List (α × Bool)) (F : List α), ∃ k, k ≤ 2 * w d ∧ ∀ m, loopS nd (m + k) ((d, false) :: S) F = loopS nd m S (gath nd n d F)
  | 0, _, h, _, _ => absurd h (Nat.not_lt_zero _)
  | n + 1, d, h, S, F => by
    have hp := hs d
    by_cases hd : d ∈ F
    · refine ⟨1, by omega, fun m => ?_⟩
      have e : gath nd (n + 1) d F = F := by unfold gath; rw [if_pos hd]
      rw [e]
      show (if d ∈ F then _ else _) = _
      rw [if_pos hd]
    · have key : ∀ (l : List α) (S : List (α × Bool)) (F : List α), (∀ x ∈ l, w x < w d) → ∃ k, k ≤ 2 * (l.map w).sum ∧ ∀ m, loopS nd (m + k) (l.map (fun x => (x, false)) ++ S) F = loopS nd m S (l.foldl (fun a x => gath nd n x a) F) := by
        intro l
        induction l with
        | nil => exact fun S F _ => ⟨0, by simp, fun m => rfl⟩
        | cons y r ih =>
          intro S F hx
          have q := hx y (by simp)
          obtain ⟨k1, h1, e1⟩ := loop_gath hs n y (by omega) (r.map (fun x => (x, false)) ++ S) F
          obtain ⟨k2, h2, e2⟩ := ih S (gath nd n y F) fun z hz => hx z (by simp [hz])
          refine ⟨k2 + k1, by rw [List.map_cons, List.sum_cons]; omega, fun m => ?_⟩
          rw [List.map_cons, List.cons_append, ← Nat.add_assoc, e1, e2]
          rfl
      obtain ⟨k, h1, e1⟩ := key (nd d) ((d, true) :: S) F (hw d)
      refine ⟨k + 1 + 1, by omega, fun m => ?_⟩
      have hg : d ∉ (nd d).foldl (fun a x => gath nd n x a) F := fun hm => by
        have key2 : ∀ (l : List α) (acc : List α), (∀ x ∈ l, w x < w d) → ∀ x ∈ l.foldl (fun a x => gath nd n x a) acc, x ∈ acc ∨ w x < w d := by
          intro l
          induction l with
          | nil => exact fun acc _ x hx => .inl hx
          | cons y r ih =>
            intro acc hx x h
            have q := hx y (by simp)
            rcases ih _ (fun z hz => hx z (by simp [hz])) x h with h | h
            · rcases (gath_p hw n y acc (by omega)).new x h with h | h
              · exact .inl h
              · exact .inr (by omega)
            · exact .inr h
        rcases key2 _ _ (hw d) d hm with h | h
        · exact hd h
        · omega
      have e : gath nd (n + 1) d F = (nd d).foldl (fun a x => gath nd n x a) F ++ [d] := by
        show (if d ∈ F then _ else _) = _
        rw [if_neg hd]
      rw [e]
      show loopS nd (m + (k + 1) + 1) ((d, false) :: S) F = _
      show (if d ∈ F then _ else if false = true then _ else loopS nd (m + (k + 1)) ((nd d).map (fun x => (x, false)) ++ (d, true) :: S) F) = _
      rw [if_neg hd, if_neg (by decide), show m + (k + 1) = (m + 1) + k by omega, e1]
      show (if d ∈ (nd d).foldl (fun a x => gath nd n x a) F then _ else if true = true then loopS nd m S ((nd d).foldl (fun a x => gath nd n x a) F ++ [d]) else _) = _
      rw [if_neg hg, if_pos rfl]
end
/-! ### in another sequence -/
section
variable {α : Type} [DecidableEq α] {nd : α → List α}
structure Exch (nd : α → List α) (Dm found : List α) : Prop where
  dem : isDem nd [] found = true
  sub : ∀ x ∈ found, x ∈ Dm
def leftOf (Dm found : List α) : List α := Dm.filter fun x => decide (x ∉ found)
def freeOf (nd : α → List α) (Dm found : List α) : List α := (leftOf Dm found).filter fun x => (nd x).all fun y => decide (y ∈ found)
theorem sub_len : ∀ (l m : List α), l.Nodup → (∀ x ∈ l, x ∈ m) → l.length ≤ m.length
  | [], _, _, _ => Nat.zero_le _
  | a :: r, m, h, hs => by
    obtain ⟨h1, h2⟩ := List.nodup_cons.mp h
    have hm : a ∈ m := hs a (by simp)
    have q := sub_len r (m.erase a) h2 fun x hx => by
      have hne : x ≠ a := fun e => h1 (e ▸ hx)
      exact (List.mem_erase_of_ne hne).mpr (hs x (by simp [hx]))
    have e := List.length_erase_of_mem hm
    have p : 0 < m.length := List.length_pos_of_mem hm
    rw [List.length_cons]
    omega
theorem free_ne {Dm found : List α} (hD : isDem nd [] Dm = true) (h : Exch nd Dm found) (hl : found.length < Dm.length) : freeOf nd Dm found ≠ [] := by
  obtain ⟨n1, _⟩ := isDem_nodup _ _ hD
  have hne : leftOf Dm found ≠ [] := fun e => by
    have q : ∀ x ∈ Dm, x ∈ found := fun x hx => by
      by_cases hf : x ∈ found
      · exact hf
      · have : x ∈ leftOf Dm found := List.mem_filter.mpr ⟨hx, by simpa using hf⟩
        rw [e] at this
        cases this
    have := sub_len Dm found n1 q
    omega
  cases e : leftOf Dm found with
  | nil => exact absurd e hne
  | cons y r =>
    obtain ⟨l1, l2, e1, e2, e3, _⟩ := List.filter_eq_cons_iff.mp (show Dm.filter (fun x => decide (x ∉ found)) = y :: r from e)
    have hy : y ∈ freeOf nd Dm found := by
      refine List.mem_filter.mpr ⟨by rw [e]; simp, List.all_eq_true.mpr fun x hx => decide_eq_true ?_⟩
      rw [e1] at hD
      have q := isDem_ahead l1 l2 y [] hD x hx
      have q2 := e2 x (by simpa using q)
      simpa using q2
    exact List.ne_nil_of_mem hy
theorem exch_step {Dm found : List α} {y : α} (hD : isDem nd [] Dm = true) (h : Exch nd Dm found) (hy : y ∈ freeOf nd Dm found) : Exch nd Dm (found ++ [y]) ∧ (leftOf Dm found).erase y = leftOf Dm (found ++ [y]) ∧ y ∈ leftOf Dm found := by
  obtain ⟨n1, _⟩ := isDem_nodup _ _ hD
  obtain ⟨h1, h2⟩ := List.mem_filter.mp hy
  obtain ⟨h3, h4⟩ := List.mem_filter.mp h1
  have h4' : y ∉ found := by simpa using h4
  refine ⟨⟨?_, fun x hx => ?_⟩, ?_, h1⟩
  · rw [isDem_app, h.dem]
    simp only [List.nil_append, Bool.true_and, Bool.and_eq_true, Bool.not_eq_true', decide_eq_false_iff_not]
    exact ⟨h4', h2⟩
  · rcases List.mem_append.mp hx with hx | hx
    · exact h.sub x hx
    · rw [List.mem_singleton.mp hx]
      exact h3
  · have nl : (leftOf Dm found).Nodup := n1.filter _
    rw [nl.erase_eq_filter]
    unfold leftOf
    rw [List.filter_filter]
    refine List.filter_congr fun x _ => ?_
    by_cases e : x = y
    · subst e; simp
    · simp [e]
theorem left_nil (Dm : List α) : leftOf Dm [] = Dm := by
  unfold leftOf
  simp
end
end K24

namespace K24
open PySem DL
/-! ### names -/
def smallL : List Nat := ("abcdefghijklmnopqrstuvwxyz" : Str).cps.toList
def nameL : List Nat := ("abcdefghijklmnopqrstuvwxyz0123456789_" : Str).cps.toList
def nmL : List Nat → Bool
  | [] => false
  | c :: r => decide (r.length < 12) && decide (c ∈ smallL) && (c :: r).all fun s => decide (s ∈ nameL)
def nmB (x : Str) : Bool := nmL x.cps.toList
def nameD : D → Bool
  | .str x => nmB x
  | _ => false
def axL : List Str := ["self", "child", "below"]
def axB (x : Str) : Bool := decide (x ∈ axL)
/-! ### filters -/
inductive Flt where
  | tru
  | lab (x : Str)
  | no (f : Flt)
  | an (f g : Flt)
  | orr (f g : Flt)
  | stop
  | step (a : Str) (f r : Flt)
deriving DecidableEq
def encP : Flt → D × List D
  | .tru => (.tup [.str "true"], [])
  | .lab x => (.tup [.str "label", .str x], [])
  | .no f => (.tup [.str "not", (encP f).1], [])
  | .an f g => (.tup [.str "and", (encP f).1, (encP g).1], [])
  | .orr f g => (.tup [.str "or", (encP f).1, (encP g).1], [])
  | .stop => (.tup [.str "some", .tup []], [])
  | .step a f r => (.tup [.str "some", .tup (.tup [.str a, (encP f).1] :: (encP r).2)], .tup [.str a, (encP f).1] :: (encP r).2)
abbrev enc (f : Flt) : D := (encP f).1
abbrev stp (f : Flt) : List D := (encP f).2
def nd : Flt → List Flt
  | .no f => [f]
  | .an f g => [f, g]
  | .orr f g => [f, g]
  | .step _ f r => [f, r]
  | _ => []
def nod : Flt → Nat
  | .no f => nod f + 1
  | .an f g => nod f + nod g + 1
  | .orr f g => nod f + nod g + 1
  | .step _ f r => nod f + nod r + 1
  | _ => 1
def dep : Flt → Nat
  | .no f => dep f + 1
  | .an f g => max (dep f) (dep g) + 1
  | .orr f g => max (dep f) (dep g) + 1
  | .step _ f r => max (dep f + 1) (dep r)
  | _ => 1
def isPath : Flt → Bool
  | .stop => true
  | .step _ _ _ => true
  | _ => false
def wf : Flt → Bool
  | .lab x => nmB x
  | .no f => wf f
  | .an f g => wf f && wf g
  | .orr f g => wf f && wf g
  | .step a f r => axB a && (wf f && (wf r && (isPath r && decide ((stp r).length < 8))))
  | _ => true
theorem nd_lt : ∀ d, ∀ x ∈ nd d, nod x < nod d := by
  intro d x hx
  cases d <;> simp [nd] at hx <;> first | (subst hx; simp [nod]) | (rcases hx with rfl | rfl <;> simp [nod] <;> omega)
theorem nd_sum : ∀ d, ((nd d).map nod).sum + 1 ≤ nod d := by
  intro d
  cases d <;> simp [nd, nod]
  all_goals omega
theorem nd_dep : ∀ d, ∀ x ∈ nd d, dep x ≤ dep d := by
  intro d x hx
  cases d <;> simp [nd] at hx <;> first | (subst hx; simp [dep]) | (rcases hx with rfl | rfl <;> simp [dep] <;> omega)
theorem nd_wf : ∀ d, wf d = true → ∀ x ∈ nd d, wf x = true := by
  intro d h x hx
  cases d <;> simp [nd] at hx <;> simp [wf] at h <;> first | (subst hx; exact h) | (rcases hx with rfl | rfl; exact h.1; exact h.2) | (rcases hx with rfl | rfl; exact h.2.1; exact h.2.2.1)
theorem stop_path : ∀ f, isPath f = true → enc f = .tup [.str "some", .tup (stp f)]
  | .stop, _ => rfl
  | .step _ _ _, _ => rfl
  | .tru, h | .lab _, h | .no _, h | .an _ _, h | .orr _ _, h => nomatch h
/-! ### a value, as a filter: how many nodes -/
def stepF : D → Option D
  | .tup [.str a, f] => if axB a = true then some f else none
  | _ => none
def sN (F : D → Option Nat) : List D → Option Nat
  | [] => some 0
  | s :: r => match (stepF s).bind F, sN F r with
    | some a, some b => some (a + b + 1)
    | _, _ => none
def pathN (F : D → Option Nat) : D → Option Nat
  | .tup ss => if ss.length ≤ 8 then sN F ss else none
  | _ => none
def fN : Nat → D → Option Nat
  | 0, _ => none
  | k + 1, .tup [.str h] => if h = "true" then some 1 else none
  | k + 1, .tup [.str h, a] => if h = "label" then (if nameD a = true then some 1 else none) else if h = "some" then (pathN (fN k) a).map (· + 1) else if h = "not" then (fN k a).map (· + 1) else none
  | k + 1, .tup [.str h, a, b] => if h = "and" ∨ h = "or" then (match fN k a, fN k b with
    | some x, some y => some (x + y + 1)
    | _, _ => none) else none
  | _ + 1, _ => none
theorem sN_inv {F : D → Option Nat} {k : Nat} (hF : ∀ d m, F d = some m → ∃ f, d = enc f ∧ wf f = true ∧ dep f ≤ k ∧ nod f = m) : ∀ (ss : List D) (m : Nat), ss.length ≤ 8 → sN F ss = some m → ∃ p, isPath p = true ∧ wf p = true ∧ dep p ≤ k + 1 ∧ stp p = ss ∧ nod p = m + 1
  | [], m, _, h => by
    cases h
    exact ⟨.stop, rfl, rfl, by simp [dep], rfl, rfl⟩
  | s :: r, m, hl, h => by
    unfold sN at h
    cases e1 : stepF s with
    | none => rw [e1] at h; simp at h
    | some f =>
      rw [e1] at h
      cases e2 : F f with
      | none => simp [e2] at h
      | some a =>
        cases e3 : sN F r with
        | none => simp [e3] at h
        | some b =>
          simp [e2, e3] at h
          subst h
          rw [List.length_cons] at hl
          obtain ⟨p, p1, p2, p3, p4, p5⟩ := sN_inv hF r b (by omega) e3
          obtain ⟨g, g1, g2, g3, g4⟩ := hF f a e2
          unfold stepF at e1
          split at e1
          · rename_i ax f'
            split at e1
            · rename_i hax
              cases e1
              refine ⟨.step ax g p, rfl, ?_, ?_, ?_, ?_⟩
              · simp only [wf, hax, g2, p2, p1, p4, Bool.true_and, decide_eq_true_eq]
                omega
              · simp only [dep]
                omega
              · show (D.tup [.str ax, enc g] :: stp p) = _
                rw [p4, g1]
              · simp only [nod, g4, p5]
                omega
            · cases e1
          · cases e1
theorem fN_inv : ∀ (k : Nat) (d : D) (m : Nat), fN k d = some m → ∃ f, d = enc f ∧ wf f = true ∧ dep f ≤ k ∧ nod f = m
  | 0, _, _, h => by cases h
  | k + 1, d, m, h => by
    unfold fN at h
    split at h
    · cases h
    · rename_i hh e0
      cases e0
      split at h
      · rename_i e
        cases h
        subst e
        exact ⟨.tru, rfl, rfl, by simp [dep], rfl⟩
      · cases h
    · rename_i hh a e0
      cases e0
      split at h
      · rename_i e
        subst e
        split at h
        · rename_i hn
          cases h
          cases a <;> first | (exact ⟨.lab _, rfl, hn, by simp [dep], rfl⟩) | cases hn
        · cases h
      · split at h
        · rename_i e
          subst e
          cases a with
          | tup ss =>
            unfold pathN at h
            dsimp only at h
            split at h
            · rename_i hl
              cases e1 : sN (fN k) ss with
              | none => rw [e1] at h; cases h
              | some b =>
                rw [e1] at h
                cases h
                obtain ⟨p, p1, p2, p3, p4, p5⟩ := sN_inv (fun d m => fN_inv k d m) ss b hl e1
                exact ⟨p, by rw [stop_path p p1, p4], p2, by omega, p5⟩
            · cases h
          | _ => cases h
        · split at h
          · rename_i e
            subst e
            cases e1 : fN k a with
            | none => rw [e1] at h; cases h
            | some b =>
              rw [e1] at h
              cases h
              obtain ⟨f, f1, f2, f3, f4⟩ := fN_inv k a b e1
              exact ⟨.no f, by rw [f1]; rfl, f2, by simp only [dep]; omega, by simp only [nod, f4]⟩
          · cases h
    · rename_i hh a b e0
      cases e0
      split at h
      · rename_i e
        cases e1 : fN k a with
        | none => simp [e1] at h
        | some x =>
          cases e2 : fN k b with
          | none => simp [e2] at h
          | some y =>
            simp [e1, e2] at h
            subst h
            obtain ⟨f, f1, f2, f3, f4⟩ := fN_inv k a x e1
            obtain ⟨g, g1, g2, g3, g4⟩ := fN_inv k b y e2
            rcases e with rfl | rfl
            · exact ⟨.an f g, by rw [f1, g1]; rfl, by simp [wf, f2, g2], by simp only [dep]; omega, by simp only [nod, f4, g4]⟩
            · exact ⟨.orr f g, by rw [f1, g1]; rfl, by simp [wf, f2, g2], by simp only [dep]; omega, by simp only [nod, f4, g4]⟩
      · cases h
    · cases h
end K24

namespace K24
open PySem DL
/-! ### what is a filter is told so -/
theorem fN_enc : ∀ (f : Flt), wf f = true → (∀ k, dep f ≤ k → fN k (enc f) = some (nod f)) ∧ (isPath f = true → ∀ k, dep f ≤ k + 1 → ∃ m, sN (fN k) (stp f) = some m ∧ nod f = m + 1 ∧ (stp f).length ≤ 8)
  | .tru, _ => ⟨fun k h => by
      cases k with
      | zero => simp [dep] at h
      | succ k => rfl, fun h => nomatch h⟩
  | .lab x, hw => ⟨fun k h => by
      cases k with
      | zero => simp [dep] at h
      | succ k =>
        show (if ("label" : Str) = "label" then (if nameD (.str x) = true then some 1 else none) else _) = _
        rw [if_pos rfl, if_pos (show nameD (.str x) = true from hw)]
        rfl, fun h => nomatch h⟩
  | .no f, hw => ⟨fun k h => by
      cases k with
      | zero => simp [dep] at h
      | succ k =>
        have ih := (fN_enc f hw).1 k (by simp only [dep] at h; omega)
        show (if ("not" : Str) = "label" then _ else if ("not" : Str) = "some" then _ else if ("not" : Str) = "not" then (fN k (enc f)).map (· + 1) else none) = _
        rw [if_neg (by decide), if_neg (by decide), if_pos rfl, ih]
        rfl, fun h => nomatch h⟩
  | .an f g, hw => ⟨fun k h => by
      cases k with
      | zero => simp [dep] at h
      | succ k =>
        simp only [wf, Bool.and_eq_true] at hw
        simp only [dep] at h
        have ih := (fN_enc f hw.1).1 k (by omega)
        have ih2 := (fN_enc g hw.2).1 k (by omega)
        show (if ("and" : Str) = "and" ∨ ("and" : Str) = "or" then (match fN k (enc f), fN k (enc g) with
          | some x, some y => some (x + y + 1)
          | _, _ => none) else none) = _
        rw [if_pos (.inl rfl), ih, ih2]
        rfl, fun h => nomatch h⟩
  | .orr f g, hw => ⟨fun k h => by
      cases k with
      | zero => simp [dep] at h
      | succ k =>
        simp only [wf, Bool.and_eq_true] at hw
        simp only [dep] at h
        have ih := (fN_enc f hw.1).1 k (by omega)
        have ih2 := (fN_enc g hw.2).1 k (by omega)
        show (if ("or" : Str) = "and" ∨ ("or" : Str) = "or" then (match fN k (enc f), fN k (enc g) with
          | some x, some y => some (x + y + 1)
          | _, _ => none) else none) = _
        rw [if_pos (.inr rfl), ih, ih2]
        rfl, fun h => nomatch h⟩
  | .stop, hw => ⟨fun k h => by
      cases k with
      | zero => simp [dep] at h
      | succ k => rfl, fun _ k h => ⟨0, rfl, rfl, by decide⟩⟩
  | .step a f r, hw => by
    have hw' := hw
    simp only [wf, Bool.and_eq_true, decide_eq_true_eq] at hw'
    obtain ⟨h1, h2, h3, h4, h5⟩ := hw'
    have B : ∀ k, dep (.step a f r) ≤ k + 1 → ∃ m, sN (fN k) (stp (.step a f r)) = some m ∧ nod (.step a f r) = m + 1 ∧ (stp (.step a f r)).length ≤ 8 := fun k h => by
      simp only [dep] at h
      have ih := (fN_enc f h2).1 k (by omega)
      obtain ⟨m, m1, m2, m3⟩ := (fN_enc r h3).2 h4 k (by omega)
      refine ⟨nod f + m + 1, ?_, by simp only [nod]; omega, by show (stp r).length + 1 ≤ 8; omega⟩
      show (match (stepF (.tup [.str a, enc f])).bind (fN k), sN (fN k) (stp r) with
        | some a, some b => some (a + b + 1)
        | _, _ => none) = _
      have e : stepF (.tup [.str a, enc f]) = some (enc f) := if_pos h1
      rw [e, m1]
      show (match fN k (enc f), some m with
        | some a, some b => some (a + b + 1)
        | _, _ => none) = _
      rw [ih]
    refine ⟨fun k h => ?_, fun _ => B⟩
    cases k with
    | zero => simp only [dep] at h; omega
    | succ k =>
      obtain ⟨m, m1, m2, m3⟩ := B k h
      show (if ("some" : Str) = "label" then _ else if ("some" : Str) = "some" then (pathN (fN k) (.tup (stp (.step a f r)))).map (· + 1) else _) = _
      rw [if_neg (by decide), if_pos rfl]
      have e : pathN (fN k) (.tup (stp (.step a f r))) = sN (fN k) (stp (.step a f r)) := if_pos m3
      rw [e, m1, m2]
      rfl
/-! ### as the library's data -/
def pyP : Flt → PyData × List PyData
  | .tru => (.tuple [.str "true"], [])
  | .lab x => (.tuple [.str "label", .str x], [])
  | .no f => (.tuple [.str "not", (pyP f).1], [])
  | .an f g => (.tuple [.str "and", (pyP f).1, (pyP g).1], [])
  | .orr f g => (.tuple [.str "or", (pyP f).1, (pyP g).1], [])
  | .stop => (.tuple [.str "some", .tuple []], [])
  | .step a f r => (.tuple [.str "some", .tuple (.tuple [.str a, (pyP f).1] :: (pyP r).2)], .tuple [.str a, (pyP f).1] :: (pyP r).2)
theorem py_of : ∀ f, toPy (enc f) = some (pyP f).1 ∧ toPy.toPyL (stp f) = some (pyP f).2
  | .tru => ⟨rfl, rfl⟩
  | .lab x => ⟨rfl, rfl⟩
  | .no f => by
    have i := (py_of f).1
    refine ⟨?_, rfl⟩
    simp only [enc] at i
    simp only [enc, encP, pyP, toPy, toPy.toPyL, i, Option.map_some]
  | .an f g => by
    have i := (py_of f).1
    have j := (py_of g).1
    refine ⟨?_, rfl⟩
    simp only [enc] at i j
    simp only [enc, encP, pyP, toPy, toPy.toPyL, i, j, Option.map_some]
  | .orr f g => by
    have i := (py_of f).1
    have j := (py_of g).1
    refine ⟨?_, rfl⟩
    simp only [enc] at i j
    simp only [enc, encP, pyP, toPy, toPy.toPyL, i, j, Option.map_some]
  | .stop => ⟨rfl, rfl⟩
  | .step a f r => by
    have i := (py_of f).1
    have j := (py_of r).2
    simp only [enc] at i
    simp only [stp] at j
    constructor
    · simp only [enc, encP, pyP, toPy, toPy.toPyL, i, j, Option.map_some]
    · simp only [stp, encP, pyP, toPy, toPy.toPyL, i, j, Option.map_some]
theorem py_solid : ∀ f, solid (pyP f).1 = true ∧ solidAll (pyP f).2 = true
  | .tru => ⟨rfl, rfl⟩
  | .lab x => ⟨rfl, rfl⟩
  | .no f => ⟨by simp [pyP, solid, solidAll, (py_solid f).1], rfl⟩
  | .an f g => ⟨by simp [pyP, solid, solidAll, (py_solid f).1, (py_solid g).1], rfl⟩
  | .orr f g => ⟨by simp [pyP, solid, solidAll, (py_solid f).1, (py_solid g).1], rfl⟩
  | .stop => ⟨rfl, rfl⟩
  | .step a f r => ⟨by simp [pyP, solid, solidAll, (py_solid f).1, (py_solid r).2], by simp [pyP, solid, solidAll, (py_solid f).1, (py_solid r).2]⟩
theorem py_path : ∀ f, isPath f = true → (pyP f).1 = .tuple [.str "some", .tuple (pyP f).2]
  | .stop, _ => rfl
  | .step _ _ _, _ => rfl
  | .tru, h | .lab _, h | .no _, h | .an _ _, h | .orr _ _, h => nomatch h
theorem py_inj : ∀ f, wf f = true → (∀ g, wf g = true → (pyP f).1 = (pyP g).1 → f = g) ∧ (isPath f = true → ∀ g, wf g = true → isPath g = true → (pyP f).2 = (pyP g).2 → f = g)
  | .tru, hw => ⟨fun g hg e => by cases g <;> simp [pyP] at e <;> rfl, fun h => nomatch h⟩
  | .lab x, hw => ⟨fun g hg e => by cases g <;> simp [pyP] at e <;> first | (exact absurd e.1 (by decide +kernel)) | (rw [e]), fun h => nomatch h⟩
  | .no f, hw => ⟨fun g hg e => by cases g <;> simp [pyP] at e <;> first | (exact absurd e.1 (by decide +kernel)) | (exact congrArg Flt.no ((py_inj f hw).1 _ hg e)), fun h => nomatch h⟩
  | .an f f2, hw => ⟨fun g hg e => by
      simp only [wf, Bool.and_eq_true] at hw
      cases g <;> simp [pyP] at e <;> first | (exact absurd e.1 (by decide +kernel)) | skip
      simp only [wf, Bool.and_eq_true] at hg
      rw [(py_inj f hw.1).1 _ hg.1 e.1, (py_inj f2 hw.2).1 _ hg.2 e.2], fun h => nomatch h⟩
  | .orr f f2, hw => ⟨fun g hg e => by
      simp only [wf, Bool.and_eq_true] at hw
      cases g <;> simp [pyP] at e <;> first | (exact absurd e.1 (by decide +kernel)) | skip
      simp only [wf, Bool.and_eq_true] at hg
      rw [(py_inj f hw.1).1 _ hg.1 e.1, (py_inj f2 hw.2).1 _ hg.2 e.2], fun h => nomatch h⟩
  | .stop, hw => ⟨fun g hg e => by cases g <;> simp [pyP] at e <;> first | (exact absurd e.1 (by decide +kernel)) | rfl, fun _ g hg hp e => by cases g <;> simp [pyP, isPath] at e hp <;> rfl⟩
  | .step a f r, hw => by
    simp only [wf, Bool.and_eq_true] at hw
    have B : ∀ g, wf g = true → isPath g = true → (pyP (.step a f r)).2 = (pyP g).2 → Flt.step a f r = g := fun g hg hp e => by
      cases g <;> simp [pyP, isPath] at e hp
      simp only [wf, Bool.and_eq_true] at hg
      rw [e.1.1, (py_inj f hw.2.1).1 _ hg.2.1 e.1.2, (py_inj r hw.2.2.1).2 hw.2.2.2.1 _ hg.2.2.1 hg.2.2.2.1 e.2]
    refine ⟨fun g hg e => ?_, fun _ => B⟩
    have hp : isPath g = true := by cases g <;> simp [pyP] at e <;> first | (exact absurd e.1 (by decide +kernel)) | rfl
    rw [py_path _ rfl, py_path g hp] at e
    injection e with e
    simp only [List.cons.injEq, PyData.tuple.injEq, and_true, true_and] at e
    exact B g hg hp e
theorem nameL_ok : ∀ s ∈ nameL, s < 1114112 := by decide +kernel
theorem nm_ok {x : Str} (h : nmB x = true) : PyData.strOk x = true := by
  unfold nmB at h
  have q : ∀ s ∈ x.cps.toList, s < 0x110000 := by
    cases e : x.cps.toList with
    | nil => exact fun s hs => nomatch hs
    | cons c r =>
      rw [e] at h
      simp only [nmL, Bool.and_eq_true] at h
      exact fun s hs => nameL_ok s (of_decide_eq_true (List.all_eq_true.mp h.2 s hs))
  unfold PyData.strOk
  rw [Array.all_eq_true_iff_forall_mem]
  exact fun s hs => decide_eq_true (q s (by simpa using hs))
theorem axL_ok : ∀ x ∈ axL, PyData.strOk x = true := by decide +kernel
theorem ax_ok {x : Str} (h : axB x = true) : PyData.strOk x = true := axL_ok x (of_decide_eq_true h)
theorem py_lay : ∀ f, wf f = true → (pyP f).1.canLay0 = true ∧ PyData.canLayAll0 (pyP f).2 = true
  | .tru, _ => by decide +kernel
  | .lab x, h => ⟨by
      have := nm_ok h
      have e : PyData.strOk "label" = true := by decide +kernel
      simp [pyP, PyData.canLay0, PyData.canLayAll0, this, e], rfl⟩
  | .no f, h => ⟨by
      have e : PyData.strOk "not" = true := by decide +kernel
      simp [pyP, PyData.canLay0, PyData.canLayAll0, (py_lay f h).1, e], rfl⟩
  | .an f g, h => ⟨by
      simp only [wf, Bool.and_eq_true] at h
      have e : PyData.strOk "and" = true := by decide +kernel
      simp [pyP, PyData.canLay0, PyData.canLayAll0, (py_lay f h.1).1, (py_lay g h.2).1, e], rfl⟩
  | .orr f g, h => ⟨by
      simp only [wf, Bool.and_eq_true] at h
      have e : PyData.strOk "or" = true := by decide +kernel
      simp [pyP, PyData.canLay0, PyData.canLayAll0, (py_lay f h.1).1, (py_lay g h.2).1, e], rfl⟩
  | .stop, _ => by decide +kernel
  | .step a f r, h => by
      simp only [wf, Bool.and_eq_true] at h
      have e : PyData.strOk "some" = true := by decide +kernel
      have e2 := ax_ok h.1
      constructor <;> simp [pyP, PyData.canLay0, PyData.canLayAll0, (py_lay f h.2.1).1, (py_lay r h.2.2.1).2, e, e2]
theorem py_dep : ∀ f, (pyP f).1.depth ≤ 3 * dep f ∧ PyData.depthAll (pyP f).2 + 2 ≤ 3 * dep f
  | .tru => by decide +kernel
  | .lab x => by constructor <;> simp [pyP, PyData.depth, PyData.depthAll, dep]
  | .no f => by
      have := py_dep f
      constructor <;> simp [pyP, PyData.depth, PyData.depthAll, dep] <;> omega
  | .an f g => by
      have := py_dep f
      have := py_dep g
      constructor <;> simp [pyP, PyData.depth, PyData.depthAll, dep] <;> omega
  | .orr f g => by
      have := py_dep f
      have := py_dep g
      constructor <;> simp [pyP, PyData.depth, PyData.depthAll, dep] <;> omega
  | .stop => by decide +kernel
  | .step a f r => by
      have := py_dep f
      have := py_dep r
      constructor <;> simp [pyP, PyData.depth, PyData.depthAll, dep] <;> omega
/-- what is dealt with: filters in form, not too deep -/
def FP (f : Flt) : Prop := wf f = true ∧ dep f ≤ 12
def fE : Emb enc FP where
  v := fun f => (pyP f).1
  py := fun f => (py_of f).1
  lay := fun f h => (py_lay f h.1).1
  dep := fun f h => by
    have := (py_dep f).1
    have := h.2
    omega
  eqv := fun f g hf hg => by
    by_cases e : f = g
    · subst e
      rw [decide_eq_true rfl]
      exact SeqAt.eqv_refl _ (py_lay f hf.1).1
    · rw [decide_eq_false e]
      cases q : PyData.eqv (pyP f).1 (pyP g).1 with
      | false => rfl
      | true => exact absurd ((py_inj f hf.1).1 g hg.1 (eqv_eq (py_solid f).1 (py_solid g).1 q)) e
end K24

namespace K24
open PySem DL
/-! ### what a datum is -/
def okD : D → Bool
  | .non | .bl _ | .int _ | .str _ | .tup _ | .lst _ | .map _ _ => true
  | _ => false
def isTup : D → Bool
  | .tup _ => true
  | _ => false
def isIntD : D → Bool
  | .int _ | .bl _ => true
  | _ => false
def isBlD : D → Bool
  | .bl _ => true
  | _ => false
theorem kbf (t u : Cn) (b : Bool) (h : kb.find? (fun p => decide (p.1 = t ∧ p.2.1 = u)) = some (t, u, b)) (d c : D) (hd : tyD d = some t) (hc : clD c = some u) : gIsc kb [d, c] = some (.bl b) := by
  unfold gIsc
  dsimp only
  rw [hd, hc]
  dsimp only
  rw [h]
  rfl
theorem isc_tup {d : D} (h : okD d = true) : gIsc kb [d, .ty "tuple"] = some (.bl (isTup d)) := by
  cases d <;> first | (cases h; done) | (exact kbf _ _ true (by decide +kernel) _ _ rfl rfl) | (exact kbf _ _ false (by decide +kernel) _ _ rfl rfl)
theorem isc_str {d : D} (h : okD d = true) : gIsc kb [d, .ty "str"] = some (.bl (isStr d)) := by
  cases d <;> first | (cases h; done) | (exact kbf _ _ true (by decide +kernel) _ _ rfl rfl) | (exact kbf _ _ false (by decide +kernel) _ _ rfl rfl)
theorem isc_int {d : D} (h : okD d = true) : gIsc kb [d, .ty "int"] = some (.bl (isIntD d)) := by
  cases d <;> first | (cases h; done) | (exact kbf _ _ true (by decide +kernel) _ _ rfl rfl) | (exact kbf _ _ false (by decide +kernel) _ _ rfl rfl)
theorem isc_bl {d : D} (h : okD d = true) : gIsc kb [d, .ty "bool"] = some (.bl (isBlD d)) := by
  cases d <;> first | (cases h; done) | (exact kbf _ _ true (by decide +kernel) _ _ rfl rfl) | (exact kbf _ _ false (by decide +kernel) _ _ rfl rfl)
/-! ### names -/
theorem gInS_one (neg : Bool) (c : Nat) (z : Str) : gInS neg (.str ⟨#[c]⟩) (.str z) = some (.bl (neg ^^ decide (c ∈ z.cps.toList))) := by
  show some (D.bl (if neg then !decide (c ∈ z.cps.toList) else decide (c ∈ z.cps.toList))) = _
  cases neg <;> simp
open SX (S S_tl S_inj S_len S_cat)
theorem gIx_S0 {c : Nat} {r : List Nat} (h : (c :: r).length ≤ sizeLine) : gIx (.str (S (c :: r))) (.int 0) = some (.str (S [c])) := by
  show (none : Option D).or ((none : Option D).or (if (S (c :: r)).length ≤ sizeLine then (L2.atI (c :: r) 0).map fun c => D.str ⟨#[c]⟩ else none)) = _
  rw [S_len, if_pos h, atI_ok (by decide) (by simp only [List.length_cons]; omega)]
  rfl
theorem all_run {l : List Nat} {z : Str} {ω : Om} {fz : EvE} {x : Str} (hx : x.length ≤ sizeLine) (hz : ∀ s, fz [.val (.str x), s] ω = .ok (.str z) ω) : (eOpN gAll (aCons (eComp (iAny (eVar 0)) (gdName 1) tTrue (eOp2 (gInS false) (eVar 1) fz) [1]) aNil)) [.val (.str x), .emp] ω = .ok (.bl ((tl x).all fun c => decide (c ∈ z.cps.toList))) ω := by
  have e3 : compF (gdName 1) tTrue (eOp2 (gInS false) (eVar 1) fz) [.val (.str x), .emp] (DL.signs x) ω = .ok ((tl x).map fun c => .bl (decide (c ∈ z.cps.toList))) ω := by
    refine compF_map (fun c => D.str (S [c])) (fun c => D.bl (decide (c ∈ z.cps.toList))) (tl x) fun c _ => ⟨[.val (.str x), .val (.str (S [c]))], rfl, ?_⟩
    have e := gInS_one false c z
    rw [Bool.false_xor] at e
    simp only [eOp2, eVar, hz, List.getElem?_cons_zero, List.getElem?_cons_succ, Rs.bind_ok]
    rw [show D.str (S [c]) = D.str ⟨#[c]⟩ from rfl, e]
    rfl
  have e4 := eComp_run (g := gdName 1) (ft := tTrue) (fe := eOp2 (gInS false) (eVar 1) fz) (vs := [1]) (δ := [.val (.str x), .emp]) (iAny_s (fa := eVar 0) (δ := [.val (.str x), .emp]) (ω := ω) (ω1 := ω) rfl hx) e3
  have e6 := gAll_map (fun c => decide (c ∈ z.cps.toList)) (tl x)
  simp only [eOpN, aCons, aNil, Rs.bind_ok, e4, e6, rs1_some]
theorem nm_sum : (("abcdefghijklmnopqrstuvwxyz" : Str) ++ "0123456789") ++ "_" = ("abcdefghijklmnopqrstuvwxyz0123456789_" : Str) := by decide +kernel
theorem is_name_S {l : List Nat} {ω : Om} (hl : l.length ≤ sizeLine) : f_is_name [.str (S l)] ω = .ok (.bl (nmL l)) ω := by
  refine runB_eq (ds := [.str (S l)]) ?_
  show g_is_name [.val (.str (S l)), .emp] ω = _
  have k1 := isc_str (d := .str (S l)) rfl
  have k2 : gEqX (.str (S l)) (.str "") = some (.bl (decide (l = []))) := gEq_S l []
  have k3 := gLen_S hl
  have k4 : gGt (.int (l.length : Nat)) (.int 12) = some (.bl (decide (12 < l.length))) := gGt_nat _ 12
  cases l with
  | nil => simp only [g_is_name, sSeq, sIf, sSet, sRet, sNext, sExpr, sFor, sPar2, sRaise0, sBreak, sCont, sRetN, eOp2, eOp1, eOpN, eVar, eC, eIf, eAnd, eOr, eNot, DL.tB, tNot, tAnd, tOr, aCons, aNil, eCall, eSl, oNone, oSome, eChain, Rs.bind_ok, Rs.bind_err, rs1_some, List.getElem?_cons_zero, List.getElem?_cons_succ, List.set_cons_zero, List.set_cons_succ, Bool.not_true, Bool.not_false, Bool.false_eq_true, if_true, if_false, k1, isStr, k2, decide_true]; rfl
  | cons c r =>
    have k5 := gIx_S0 hl
    have k6 : gInS true (.str (S [c])) (.str "abcdefghijklmnopqrstuvwxyz") = some (.bl (!decide (c ∈ smallL))) := by
      have := gInS_one true c "abcdefghijklmnopqrstuvwxyz"
      rw [Bool.true_xor] at this
      exact this
    have k7 := all_run (l := c :: r) (z := "abcdefghijklmnopqrstuvwxyz0123456789_") (ω := ω) (x := S (c :: r)) (fz := eOp2 gAdd (eOp2 gAdd (eC (.str "abcdefghijklmnopqrstuvwxyz")) (eC (.str "0123456789"))) (eC (.str "_"))) (by rw [S_len]; exact hl) fun s => by
      have a1 : gAdd (.str "abcdefghijklmnopqrstuvwxyz") (.str "0123456789") = some (.str ("abcdefghijklmnopqrstuvwxyz" ++ "0123456789")) := gAdd_ss (by decide +kernel)
      have a2 : gAdd (.str ("abcdefghijklmnopqrstuvwxyz" ++ "0123456789")) (.str "_") = some (.str (("abcdefghijklmnopqrstuvwxyz" ++ "0123456789") ++ "_")) := gAdd_ss (by decide +kernel)
      simp only [eOp2, eC, Rs.bind_ok, a1, a2, rs1_some, nm_sum]
    have d1 : decide (c :: r = []) = false := rfl
    have en : nmL (c :: r) = (decide (r.length < 12) && decide (c ∈ smallL) && (c :: r).all fun s => decide (s ∈ nameL)) := rfl
    rw [d1] at k2
    have d3 : decide (12 < (c :: r).length) = !decide (r.length < 12) := by
      rw [List.length_cons]
      by_cases h : r.length < 12
      · rw [decide_eq_true h, decide_eq_false (by omega)]; rfl
      · rw [decide_eq_false h, decide_eq_true (by omega)]; rfl
    rw [d3] at k4
    rw [en]
    generalize decide (r.length < 12) = b1 at *
    generalize decide (c ∈ smallL) = b2 at *
    have k7' : (eOpN gAll (aCons (eComp (iAny (eVar 0)) (gdName 1) tTrue (eOp2 (gInS false) (eVar 1) (eOp2 gAdd (eOp2 gAdd (eC (.str "abcdefghijklmnopqrstuvwxyz")) (eC (.str "0123456789"))) (eC (.str "_")))) [1]) aNil)) [.val (.str (S (c :: r))), .emp] ω = .ok (.bl ((c :: r).all fun s => decide (s ∈ nameL))) ω := k7
    cases b1 with
    | false => simp only [g_is_name, sSeq, sIf, sSet, sRet, sNext, sExpr, sFor, sPar2, sRaise0, sBreak, sCont, sRetN, eOp2, eOp1, eOpN, eVar, eC, eIf, eAnd, eOr, eNot, DL.tB, tNot, tAnd, tOr, aCons, aNil, eCall, eSl, oNone, oSome, eChain, Rs.bind_ok, Rs.bind_err, rs1_some, List.getElem?_cons_zero, List.getElem?_cons_succ, List.set_cons_zero, List.set_cons_succ, Bool.not_true, Bool.not_false, Bool.false_eq_true, if_true, if_false, k1, isStr, k2, k3, k4, Bool.false_and]
    | true =>
      cases b2 with
      | false => simp only [g_is_name, sSeq, sIf, sSet, sRet, sNext, sExpr, sFor, sPar2, sRaise0, sBreak, sCont, sRetN, eOp2, eOp1, eOpN, eVar, eC, eIf, eAnd, eOr, eNot, DL.tB, tNot, tAnd, tOr, aCons, aNil, eCall, eSl, oNone, oSome, eChain, Rs.bind_ok, Rs.bind_err, rs1_some, List.getElem?_cons_zero, List.getElem?_cons_succ, List.set_cons_zero, List.set_cons_succ, Bool.not_true, Bool.not_false, Bool.false_eq_true, if_true, if_false, k1, isStr, k2, k3, k4, k5, k6, Bool.false_and, Bool.true_and]
      | true =>
        rw [Bool.true_and, Bool.true_and]
        have key : (sIf (tOr (tNot (DL.tB (eOpN (gIsc kb) (aCons (eVar 0) (aCons (eC (.ty "str")) aNil))))) (tOr (DL.tB (eOp2 gEqX (eVar 0) (eC (.str "")))) (tOr (DL.tB (eOp2 gGt (eOpN gLen (aCons (eVar 0) aNil)) (eC (.int 12)))) (DL.tB (eOp2 (gInS true) (eOp2 gIx (eVar 0) (eC (.int 0))) (eC (.str "abcdefghijklmnopqrstuvwxyz"))))))) (sRet (eC (.bl false))) sNext) [.val (.str (S (c :: r))), .emp] ω = .ok (.nx [.val (.str (S (c :: r))), .emp]) ω := by
          simp only [sSeq, sIf, sSet, sRet, sNext, sExpr, sFor, sPar2, sRaise0, sBreak, sCont, sRetN, eOp2, eOp1, eOpN, eVar, eC, eIf, eAnd, eOr, eNot, DL.tB, tNot, tAnd, tOr, aCons, aNil, eCall, eSl, oNone, oSome, eChain, Rs.bind_ok, Rs.bind_err, rs1_some, List.getElem?_cons_zero, List.getElem?_cons_succ, List.set_cons_zero, List.set_cons_succ, Bool.not_true, Bool.not_false, Bool.false_eq_true, if_true, if_false, k1, isStr, k2, k3, k4, k5, k6]
        exact (sSeq_run key).trans (sRet_run k7')
end K24

namespace K24
open PySem DL
open SX (S S_tl S_inj S_len S_cat)
theorem filter_all {α : Type} (b : α → Bool) : ∀ l : List α, (l.filter fun c => !b c).isEmpty = l.all b
  | [] => rfl
  | c :: r => by
    have ih := filter_all b r
    cases h : b c
    · rw [List.filter_cons_of_pos (by rw [h]; rfl), List.all_cons, h]
      rfl
    · rw [List.filter_cons_of_neg (by rw [h]; decide), ih, List.all_cons, h]
      rfl
theorem gLst_nil : gLst [] = some (.lst []) := gLst_ok (by decide)
theorem gTup_nil : gTup [] = some (.tup []) := gTup_ok (by decide)
theorem none_run {l : List Nat} {z : Str} {ω : Om} {x : Str} (hx : x.length ≤ sizeLine) : (eOp2 gEqX (eComp (iAny (eVar 0)) (gdName 1) (DL.tB (eOp2 (gInS true) (eVar 1) (eC (.str z)))) (eVar 1) [1]) (eOpN gLst aNil)) [.val (.str x), .emp] ω = .ok (.bl ((tl x).all fun c => decide (c ∈ z.cps.toList))) ω := by
  have e3 : compF (gdName 1) (DL.tB (eOp2 (gInS true) (eVar 1) (eC (.str z)))) (eVar 1) [.val (.str x), .emp] (DL.signs x) ω = .ok (((tl x).filter fun c => !decide (c ∈ z.cps.toList)).map fun c => D.str (S [c])) ω := by
    refine compF_filter (fun c => D.str (S [c])) (fun c => D.str (S [c])) (fun c => !decide (c ∈ z.cps.toList)) (tl x) fun c _ => ⟨[.val (.str x), .val (.str (S [c]))], rfl, ?_, fun _ => rfl⟩
    have e := gInS_one true c z
    rw [Bool.true_xor] at e
    show (DL.tB (eOp2 (gInS true) (eVar 1) (eC (.str z)))) [.val (.str x), .val (.str ⟨#[c]⟩)] ω = _
    simp only [sSeq, sIf, sSet, sRet, sNext, sExpr, sFor, sPar2, sRaise0, sBreak, sCont, sRetN, eOp2, eOp1, eOpN, eVar, eC, eIf, eAnd, eOr, eNot, DL.tB, tNot, tAnd, tOr, aCons, aNil, eCall, eSl, oNone, oSome, eChain, Rs.bind_ok, Rs.bind_err, rs1_some, List.getElem?_cons_zero, List.getElem?_cons_succ, List.set_cons_zero, List.set_cons_succ, Bool.not_true, Bool.not_false, Bool.false_eq_true, if_true, if_false, e]
  have e4 := eComp_run (g := gdName 1) (ft := (DL.tB (eOp2 (gInS true) (eVar 1) (eC (.str z))))) (fe := eVar 1) (vs := [1]) (δ := [.val (.str x), .emp]) (iAny_s (fa := eVar 0) (δ := [.val (.str x), .emp]) (ω := ω) (ω1 := ω) rfl hx) e3
  have e6 := gEqX_l0 (((tl x).filter fun c => !decide (c ∈ z.cps.toList)).map fun c => D.str (S [c]))
  rw [List.isEmpty_map, filter_all] at e6
  simp only [eOp2, eOpN, aNil, Rs.bind_ok, e4, gLst_nil, e6, rs1_some]
theorem w_is_name_S {l : List Nat} {ω : Om} (hl : l.length ≤ sizeLine) : f_w_k24_is_name [.str (S l)] ω = .ok (.bl (nmL l)) ω := by
  refine runB_eq (ds := [.str (S l)]) ?_
  show g_w_k24_is_name [.val (.str (S l)), .emp] ω = _
  have k1 := isc_str (d := .str (S l)) rfl
  have k2 : gEqX (.str (S l)) (.str "") = some (.bl (decide (l = []))) := gEq_S l []
  have k3 := gLen_S hl
  have k4 : gGt (.int (l.length : Nat)) (.int 12) = some (.bl (decide (12 < l.length))) := gGt_nat _ 12
  cases l with
  | nil => simp only [g_w_k24_is_name, sSeq, sIf, sSet, sRet, sNext, sExpr, sFor, sPar2, sRaise0, sBreak, sCont, sRetN, eOp2, eOp1, eOpN, eVar, eC, eIf, eAnd, eOr, eNot, DL.tB, tNot, tAnd, tOr, aCons, aNil, eCall, eSl, oNone, oSome, eChain, Rs.bind_ok, Rs.bind_err, rs1_some, List.getElem?_cons_zero, List.getElem?_cons_succ, List.set_cons_zero, List.set_cons_succ, Bool.not_true, Bool.not_false, Bool.false_eq_true, if_true, if_false, k1, isStr, k2, decide_true]; rfl
  | cons c r =>
    have k5 := gIx_S0 hl
    have k6 : gInS true (.str (S [c])) (.str "abcdefghijklmnopqrstuvwxyz") = some (.bl (!decide (c ∈ smallL))) := by
      have := gInS_one true c "abcdefghijklmnopqrstuvwxyz"
      rw [Bool.true_xor] at this
      exact this
    have k7 := none_run (l := c :: r) (z := "abcdefghijklmnopqrstuvwxyz0123456789_") (ω := ω) (x := S (c :: r)) (by rw [S_len]; exact hl)
    have d1 : decide (c :: r = []) = false := rfl
    have en : nmL (c :: r) = (decide (r.length < 12) && decide (c ∈ smallL) && (c :: r).all fun s => decide (s ∈ nameL)) := rfl
    rw [d1] at k2
    have d3 : decide (12 < (c :: r).length) = !decide (r.length < 12) := by
      rw [List.length_cons]
      by_cases h : r.length < 12
      · rw [decide_eq_true h, decide_eq_false (by omega)]; rfl
      · rw [decide_eq_false h, decide_eq_true (by omega)]; rfl
    rw [d3] at k4
    rw [en]
    generalize decide (r.length < 12) = b1 at *
    generalize decide (c ∈ smallL) = b2 at *
    have k7' : (eOp2 gEqX (eComp (iAny (eVar 0)) (gdName 1) (DL.tB (eOp2 (gInS true) (eVar 1) (eC (.str "abcdefghijklmnopqrstuvwxyz0123456789_")))) (eVar 1) [1]) (eOpN gLst aNil)) [.val (.str (S (c :: r))), .emp] ω = .ok (.bl ((c :: r).all fun s => decide (s ∈ nameL))) ω := k7
    cases b1 with
    | false => simp only [g_w_k24_is_name, sSeq, sIf, sSet, sRet, sNext, sExpr, sFor, sPar2, sRaise0, sBreak, sCont, sRetN, eOp2, eOp1, eOpN, eVar, eC, eIf, eAnd, eOr, eNot, DL.tB, tNot, tAnd, tOr, aCons, aNil, eCall, eSl, oNone, oSome, eChain, Rs.bind_ok, Rs.bind_err, rs1_some, List.getElem?_cons_zero, List.getElem?_cons_succ, List.set_cons_zero, List.set_cons_succ, Bool.not_true, Bool.not_false, Bool.false_eq_true, if_true, if_false, k1, isStr, k2, k3, k4, Bool.false_and]
    | true =>
      cases b2 with
      | false => simp only [g_w_k24_is_name, sSeq, sIf, sSet, sRet, sNext, sExpr, sFor, sPar2, sRaise0, sBreak, sCont, sRetN, eOp2, eOp1, eOpN, eVar, eC, eIf, eAnd, eOr, eNot, DL.tB, tNot, tAnd, tOr, aCons, aNil, eCall, eSl, oNone, oSome, eChain, Rs.bind_ok, Rs.bind_err, rs1_some, List.getElem?_cons_zero, List.getElem?_cons_succ, List.set_cons_zero, List.set_cons_succ, Bool.not_true, Bool.not_false, Bool.false_eq_true, if_true, if_false, k1, isStr, k2, k3, k4, k5, k6, Bool.false_and, Bool.true_and]
      | true =>
        rw [Bool.true_and, Bool.true_and]
        have key : (sIf (tOr (tNot (DL.tB (eOpN (gIsc kb) (aCons (eVar 0) (aCons (eC (.ty "str")) aNil))))) (tOr (DL.tB (eOp2 gEqX (eVar 0) (eC (.str "")))) (tOr (DL.tB (eOp2 gGt (eOpN gLen (aCons (eVar 0) aNil)) (eC (.int 12)))) (DL.tB (eOp2 (gInS true) (eOp2 gIx (eVar 0) (eC (.int 0))) (eC (.str "abcdefghijklmnopqrstuvwxyz"))))))) (sRet (eC (.bl false))) sNext) [.val (.str (S (c :: r))), .emp] ω = .ok (.nx [.val (.str (S (c :: r))), .emp]) ω := by
          simp only [sSeq, sIf, sSet, sRet, sNext, sExpr, sFor, sPar2, sRaise0, sBreak, sCont, sRetN, eOp2, eOp1, eOpN, eVar, eC, eIf, eAnd, eOr, eNot, DL.tB, tNot, tAnd, tOr, aCons, aNil, eCall, eSl, oNone, oSome, eChain, Rs.bind_ok, Rs.bind_err, rs1_some, List.getElem?_cons_zero, List.getElem?_cons_succ, List.set_cons_zero, List.set_cons_succ, Bool.not_true, Bool.not_false, Bool.false_eq_true, if_true, if_false, k1, isStr, k2, k3, k4, k5, k6]
        exact (sSeq_run key).trans (sRet_run k7')
/-! ### of any value -/
def small (n : Nat) : D → Bool
  | .str x => decide (x.length ≤ n)
  | _ => true
theorem is_name_ok {d : D} {ω : Om} (h : okD d = true) (hs : small sizeLine d = true) : f_is_name [d] ω = .ok (.bl (nameD d)) ω ∧ f_w_k24_is_name [d] ω = .ok (.bl (nameD d)) ω := by
  by_cases hd : isStr d = true
  · cases d with
    | str x =>
      have hl : (tl x).length ≤ sizeLine := by
        rw [Array.length_toList]
        exact of_decide_eq_true hs
      have e1 := is_name_S (ω := ω) hl
      have e2 := w_is_name_S (ω := ω) hl
      rw [S_tl] at e1 e2
      exact ⟨e1, e2⟩
    | _ => cases hd
  · have k1 := isc_str h
    have hd' : isStr d = false := by simpa using hd
    rw [hd'] at k1
    have en : nameD d = false := by cases d <;> first | rfl | cases hd'
    rw [en]
    constructor
    · refine runB_eq (ds := [d]) ?_
      show g_is_name [.val d, .emp] ω = _
      simp only [g_is_name, sSeq, sIf, sSet, sRet, sNext, sExpr, sFor, sPar2, sRaise0, sBreak, sCont, sRetN, eOp2, eOp1, eOpN, eVar, eC, eIf, eAnd, eOr, eNot, DL.tB, tNot, tAnd, tOr, aCons, aNil, eCall, eSl, oNone, oSome, eChain, Rs.bind_ok, Rs.bind_err, rs1_some, List.getElem?_cons_zero, List.getElem?_cons_succ, List.set_cons_zero, List.set_cons_succ, Bool.not_true, Bool.not_false, Bool.false_eq_true, if_true, if_false, k1]
    · refine runB_eq (ds := [d]) ?_
      show g_w_k24_is_name [.val d, .emp] ω = _
      simp only [g_w_k24_is_name, sSeq, sIf, sSet, sRet, sNext, sExpr, sFor, sPar2, sRaise0, sBreak, sCont, sRetN, eOp2, eOp1, eOpN, eVar, eC, eIf, eAnd, eOr, eNot, DL.tB, tNot, tAnd, tOr, aCons, aNil, eCall, eSl, oNone, oSome, eChain, Rs.bind_ok, Rs.bind_err, rs1_some, List.getElem?_cons_zero, List.getElem?_cons_succ, List.set_cons_zero, List.set_cons_succ, Bool.not_true, Bool.not_false, Bool.false_eq_true, if_true, if_false, k1]
end K24

namespace K24
open PySem DL
/-! ### values that are met -/
def goodD (N : Nat) : D → Bool
  | .non => true
  | .bl _ => true
  | .int _ => true
  | .str x => decide (x.length ≤ N)
  | .tup ds => decide (ds.length ≤ N) && goodL ds
  | .lst ds => decide (ds.length ≤ N) && goodL ds
  | .map ks ds => ks.isEmpty && ds.isEmpty
  | _ => false
where goodL : List D → Bool
  | [] => true
  | d :: ds => goodD N d && goodL ds
theorem goodL_iff {N : Nat} : ∀ {ds : List D}, goodD.goodL N ds = true ↔ ∀ d ∈ ds, goodD N d = true
  | [] => ⟨fun _ d h => (nomatch h), fun _ => rfl⟩
  | d :: ds => by
    show (goodD N d && goodD.goodL N ds) = true ↔ _
    rw [Bool.and_eq_true, goodL_iff (ds := ds)]
    simp
theorem good_tup {N : Nat} {ds : List D} : goodD N (.tup ds) = true ↔ ds.length ≤ N ∧ ∀ d ∈ ds, goodD N d = true := by
  show (decide (ds.length ≤ N) && goodD.goodL N ds) = true ↔ _
  rw [Bool.and_eq_true, decide_eq_true_eq, goodL_iff]
theorem good_lst {N : Nat} {ds : List D} : goodD N (.lst ds) = true ↔ ds.length ≤ N ∧ ∀ d ∈ ds, goodD N d = true := by
  show (decide (ds.length ≤ N) && goodD.goodL N ds) = true ↔ _
  rw [Bool.and_eq_true, decide_eq_true_eq, goodL_iff]
theorem good_ok {N : Nat} {d : D} (h : goodD N d = true) : okD d = true := by
  cases d <;> first | rfl | cases h
def NN : Nat := 10000
theorem NN_sz : NN ≤ sizeLine := by decide
abbrev Gd (d : D) : Prop := goodD NN d = true
theorem good_small {d : D} (h : Gd d) : small sizeLine d = true := by
  cases d <;> first | rfl | skip
  rename_i x
  have : x.length ≤ NN := of_decide_eq_true h
  exact decide_eq_true (Nat.le_trans this NN_sz)
theorem name_run {d : D} {ω : Om} (h : Gd d) : f_is_name [d] ω = .ok (.bl (nameD d)) ω := (is_name_ok (good_ok h) (good_small h)).1
theorem name_run2 {d : D} {ω : Om} (h : Gd d) : f_w_k24_is_name [d] ω = .ok (.bl (nameD d)) ω := (is_name_ok (good_ok h) (good_small h)).2
/-! ### plain questions -/
def tupLen (d : D) (k : Nat) : Bool := match d with
  | .tup ds => decide (ds.length = k)
  | _ => false
theorem is_tuple_of_run {d : D} {k : Nat} {ω : Om} (h : okD d = true) : f_is_tuple_of [d, .int (k : Nat)] ω = .ok (.bl (tupLen d k)) ω := by
  refine runB_eq (ds := [d, .int (k : Nat)]) ?_
  show g_is_tuple_of [.val d, .val (.int (k : Nat))] ω = _
  have k1 := isc_tup h
  cases hd : isTup d with
  | false =>
    rw [hd] at k1
    have e : tupLen d k = false := by cases d <;> first | rfl | cases hd
    simp only [g_is_tuple_of, sSeq, sIf, sSet, sRet, sNext, sExpr, sFor, sPar2, sRaise0, sBreak, sCont, sRetN, eOp2, eOp1, eOpN, eVar, eC, eIf, eAnd, eOr, eNot, DL.tB, tNot, tAnd, tOr, aCons, aNil, eCall, eSl, oNone, oSome, eChain, Rs.bind_ok, Rs.bind_err, rs1_some, List.getElem?_cons_zero, List.getElem?_cons_succ, List.set_cons_zero, List.set_cons_succ, Bool.not_true, Bool.not_false, Bool.false_eq_true, if_true, if_false, k1, e]
  | true =>
    rw [hd] at k1
    cases d <;> first | (cases hd; done) | skip
    rename_i ds
    have k2 := gEqX_nat ds.length k
    simp only [g_is_tuple_of, sSeq, sIf, sSet, sRet, sNext, sExpr, sFor, sPar2, sRaise0, sBreak, sCont, sRetN, eOp2, eOp1, eOpN, eVar, eC, eIf, eAnd, eOr, eNot, DL.tB, tNot, tAnd, tOr, aCons, aNil, eCall, eSl, oNone, oSome, eChain, Rs.bind_ok, Rs.bind_err, rs1_some, List.getElem?_cons_zero, List.getElem?_cons_succ, List.set_cons_zero, List.set_cons_succ, Bool.not_true, Bool.not_false, Bool.false_eq_true, if_true, if_false, k1, gLen_t, k2, tupLen]
def headB : D → Bool
  | .tup (.str _ :: _) => true
  | _ => false
theorem is_headed_run {d : D} {ω : Om} (h : Gd d) : f_is_headed [d] ω = .ok (.bl (headB d)) ω := by
  refine runB_eq (ds := [d]) ?_
  show g_is_headed [.val d] ω = _
  have k1 := isc_tup (good_ok h)
  cases hd : isTup d with
  | false =>
    rw [hd] at k1
    have e : headB d = false := by cases d <;> first | rfl | cases hd
    simp only [g_is_headed, sSeq, sIf, sSet, sRet, sNext, sExpr, sFor, sPar2, sRaise0, sBreak, sCont, sRetN, eOp2, eOp1, eOpN, eVar, eC, eIf, eAnd, eOr, eNot, DL.tB, tNot, tAnd, tOr, aCons, aNil, eCall, eSl, oNone, oSome, eChain, Rs.bind_ok, Rs.bind_err, rs1_some, List.getElem?_cons_zero, List.getElem?_cons_succ, List.set_cons_zero, List.set_cons_succ, Bool.not_true, Bool.not_false, Bool.false_eq_true, if_true, if_false, k1, e]
  | true =>
    rw [hd] at k1
    cases d <;> first | (cases hd; done) | skip
    rename_i ds
    have k2 := gNeX_t0 ds
    cases ds with
    | nil =>
      simp only [g_is_headed, sSeq, sIf, sSet, sRet, sNext, sExpr, sFor, sPar2, sRaise0, sBreak, sCont, sRetN, eOp2, eOp1, eOpN, eVar, eC, eIf, eAnd, eOr, eNot, DL.tB, tNot, tAnd, tOr, aCons, aNil, eCall, eSl, oNone, oSome, eChain, Rs.bind_ok, Rs.bind_err, rs1_some, List.getElem?_cons_zero, List.getElem?_cons_succ, List.set_cons_zero, List.set_cons_succ, Bool.not_true, Bool.not_false, Bool.false_eq_true, if_true, if_false, k1, gTup_nil, k2, List.isEmpty_nil]
      rfl
    | cons x r =>
      have k3 := isc_str (good_ok ((good_tup.mp h).2 x (by simp)))
      have e : headB (.tup (x :: r)) = isStr x := by cases x <;> rfl
      simp only [g_is_headed, sSeq, sIf, sSet, sRet, sNext, sExpr, sFor, sPar2, sRaise0, sBreak, sCont, sRetN, eOp2, eOp1, eOpN, eVar, eC, eIf, eAnd, eOr, eNot, DL.tB, tNot, tAnd, tOr, aCons, aNil, eCall, eSl, oNone, oSome, eChain, Rs.bind_ok, Rs.bind_err, rs1_some, List.getElem?_cons_zero, List.getElem?_cons_succ, List.set_cons_zero, List.set_cons_succ, Bool.not_true, Bool.not_false, Bool.false_eq_true, if_true, if_false, k1, gTup_nil, k2, List.isEmpty_cons, gIx_t0, k3, e]
theorem is_alone_run {ds : List D} {ω : Om} : f_is_alone [.tup ds] ω = .ok (.bl (decide (ds.length = 1))) ω := by
  refine runB_eq (ds := [.tup ds]) ?_
  show g_is_alone [.val (.tup ds)] ω = _
  have k2 : gEqX (.int (ds.length : Nat)) (.int 1) = some (.bl (decide (ds.length = 1))) := gEqX_nat ds.length 1
  simp only [g_is_alone, sSeq, sIf, sSet, sRet, sNext, sExpr, sFor, sPar2, sRaise0, sBreak, sCont, sRetN, eOp2, eOp1, eOpN, eVar, eC, eIf, eAnd, eOr, eNot, DL.tB, tNot, tAnd, tOr, aCons, aNil, eCall, eSl, oNone, oSome, eChain, Rs.bind_ok, Rs.bind_err, rs1_some, List.getElem?_cons_zero, List.getElem?_cons_succ, List.set_cons_zero, List.set_cons_succ, Bool.not_true, Bool.not_false, Bool.false_eq_true, if_true, if_false, gLen_t, k2]
def namedB : List D → Bool
  | [_, x] => nameD x
  | _ => false
theorem is_named_run {ds : List D} {ω : Om} (h : ∀ d ∈ ds, Gd d) : f_is_named [.tup ds] ω = .ok (.bl (namedB ds)) ω := by
  refine runB_eq (ds := [.tup ds]) ?_
  show g_is_named [.val (.tup ds)] ω = _
  have k2 : gEqX (.int (ds.length : Nat)) (.int 2) = some (.bl (decide (ds.length = 2))) := gEqX_nat ds.length 2
  match ds, h, k2 with
  | [], _, k2 => simp only [g_is_named, sSeq, sIf, sSet, sRet, sNext, sExpr, sFor, sPar2, sRaise0, sBreak, sCont, sRetN, eOp2, eOp1, eOpN, eVar, eC, eIf, eAnd, eOr, eNot, DL.tB, tNot, tAnd, tOr, aCons, aNil, eCall, eSl, oNone, oSome, eChain, Rs.bind_ok, Rs.bind_err, rs1_some, List.getElem?_cons_zero, List.getElem?_cons_succ, List.set_cons_zero, List.set_cons_succ, Bool.not_true, Bool.not_false, Bool.false_eq_true, if_true, if_false, gLen_t, k2]; rfl
  | [_], _, k2 => simp only [g_is_named, sSeq, sIf, sSet, sRet, sNext, sExpr, sFor, sPar2, sRaise0, sBreak, sCont, sRetN, eOp2, eOp1, eOpN, eVar, eC, eIf, eAnd, eOr, eNot, DL.tB, tNot, tAnd, tOr, aCons, aNil, eCall, eSl, oNone, oSome, eChain, Rs.bind_ok, Rs.bind_err, rs1_some, List.getElem?_cons_zero, List.getElem?_cons_succ, List.set_cons_zero, List.set_cons_succ, Bool.not_true, Bool.not_false, Bool.false_eq_true, if_true, if_false, gLen_t, k2]; rfl
  | [a, x], h, k2 =>
    have k3 := name_run (ω := ω) (h x (by simp))
    have e : decide (([a, x] : List D).length = 2) = true := rfl
    rw [e] at k2
    simp only [g_is_named, sSeq, sIf, sSet, sRet, sNext, sExpr, sFor, sPar2, sRaise0, sBreak, sCont, sRetN, eOp2, eOp1, eOpN, eVar, eC, eIf, eAnd, eOr, eNot, DL.tB, tNot, tAnd, tOr, aCons, aNil, eCall, eSl, oNone, oSome, eChain, Rs.bind_ok, Rs.bind_err, rs1_some, List.getElem?_cons_zero, List.getElem?_cons_succ, List.set_cons_zero, List.set_cons_succ, Bool.not_true, Bool.not_false, Bool.false_eq_true, if_true, if_false, gLen_t, k2, gIx_t1, k3, namedB]
  | a :: x :: y :: r, _, k2 =>
    have e : decide ((a :: x :: y :: r).length = 2) = false := decide_eq_false (by simp only [List.length_cons]; omega)
    rw [e] at k2
    simp only [g_is_named, sSeq, sIf, sSet, sRet, sNext, sExpr, sFor, sPar2, sRaise0, sBreak, sCont, sRetN, eOp2, eOp1, eOpN, eVar, eC, eIf, eAnd, eOr, eNot, DL.tB, tNot, tAnd, tOr, aCons, aNil, eCall, eSl, oNone, oSome, eChain, Rs.bind_ok, Rs.bind_err, rs1_some, List.getElem?_cons_zero, List.getElem?_cons_succ, List.set_cons_zero, List.set_cons_succ, Bool.not_true, Bool.not_false, Bool.false_eq_true, if_true, if_false, gLen_t, k2]
    rfl
/-! ### paths -/
def RP (o : Option Nat) (n : Nat) : Prop := match o with
  | some m => n = m ∨ (60 < n ∧ 60 < m)
  | none => 60 < n
def Fok (F : List D → Om → Rs D) (k : Nat) : Prop := ∀ d ω, Gd d → ∃ n : Nat, F [d, .int (k : Nat)] ω = .ok (.int (n : Nat)) ω ∧ RP (fN k d) n
theorem ax_run (a : Str) : gInV true (.str a) (.tup [.str "self", .str "child", .str "below"]) = some (.bl (!axB a)) := by
  have e := gInV_ts true a axL
  rw [Bool.true_xor] at e
  exact e
abbrev stepC : EvT := tOr (tNot (DL.tB (eCall f_is_tuple_of (aCons (eVar 3) (aCons (eC (.int 2)) aNil))))) (tOr (tNot (DL.tB (eOpN (gIsc kb) (aCons (eOp2 gIx (eVar 3) (eC (.int 0))) (aCons (eC (.ty "str")) aNil))))) (DL.tB (eOp2 (gInV true) (eOp2 gIx (eVar 3) (eC (.int 0))) (eC (.tup [.str "self", .str "child", .str "below"])))))
theorem stepC_run {s : D} {v k a : Sl} {ω : Om} (h : Gd s) : stepC [v, k, a, .val s] ω = .ok (stepF s).isNone ω ∧ ∀ f, stepF s = some f → Gd f ∧ gIx s (.int 1) = some f := by
  have k1 : f_is_tuple_of [s, .int 2] ω = .ok (.bl (tupLen s 2)) ω := is_tuple_of_run (k := 2) (good_ok h)
  cases ht : tupLen s 2 with
  | false =>
    rw [ht] at k1
    have e : stepF s = none := by
      unfold stepF
      split
      · cases ht
      · rfl
    rw [e]
    exact ⟨by simp only [stepC, sSeq, sIf, sSet, sRet, sNext, sExpr, sFor, sPar2, sRaise0, sBreak, sCont, sRetN, eOp2, eOp1, eOpN, eVar, eC, eIf, eAnd, eOr, eNot, DL.tB, tNot, tAnd, tOr, aCons, aNil, eCall, eSl, oNone, oSome, eChain, Rs.bind_ok, Rs.bind_err, rs1_some, List.getElem?_cons_zero, List.getElem?_cons_succ, List.set_cons_zero, List.set_cons_succ, Bool.not_true, Bool.not_false, Bool.false_eq_true, if_true, if_false, k1]; rfl, fun f hf => nomatch hf⟩
  | true =>
    rw [ht] at k1
    match s, h, ht, k1 with
    | .tup [x, f], h, _, k1 =>
      have hx := (good_tup.mp h).2
      have k2 := isc_str (good_ok (hx x (by simp)))
      cases hs : isStr x with
      | false =>
        rw [hs] at k2
        have e : stepF (.tup [x, f]) = none := by
          unfold stepF
          split
          · rename_i e0
            cases e0
            cases hs
          · rfl
        rw [e]
        exact ⟨by simp only [stepC, sSeq, sIf, sSet, sRet, sNext, sExpr, sFor, sPar2, sRaise0, sBreak, sCont, sRetN, eOp2, eOp1, eOpN, eVar, eC, eIf, eAnd, eOr, eNot, DL.tB, tNot, tAnd, tOr, aCons, aNil, eCall, eSl, oNone, oSome, eChain, Rs.bind_ok, Rs.bind_err, rs1_some, List.getElem?_cons_zero, List.getElem?_cons_succ, List.set_cons_zero, List.set_cons_succ, Bool.not_true, Bool.not_false, Bool.false_eq_true, if_true, if_false, k1, gIx_t0, k2]; rfl, fun f hf => nomatch hf⟩
      | true =>
        rw [hs] at k2
        cases x with
        | str a =>
          have k3 := ax_run a
          have e : stepF (.tup [.str a, f]) = if axB a = true then some f else none := rfl
          rw [e]
          cases ha : axB a with
          | true =>
            rw [ha] at k3
            refine ⟨by simp only [stepC, sSeq, sIf, sSet, sRet, sNext, sExpr, sFor, sPar2, sRaise0, sBreak, sCont, sRetN, eOp2, eOp1, eOpN, eVar, eC, eIf, eAnd, eOr, eNot, DL.tB, tNot, tAnd, tOr, aCons, aNil, eCall, eSl, oNone, oSome, eChain, Rs.bind_ok, Rs.bind_err, rs1_some, List.getElem?_cons_zero, List.getElem?_cons_succ, List.set_cons_zero, List.set_cons_succ, Bool.not_true, Bool.not_false, Bool.false_eq_true, if_true, if_false, k1, gIx_t0, k2, k3]; rfl, fun f' hf => ?_⟩
            cases hf
            exact ⟨hx f (by simp), gIx_t1 _ _ _⟩
          | false =>
            rw [ha] at k3
            exact ⟨by simp only [stepC, sSeq, sIf, sSet, sRet, sNext, sExpr, sFor, sPar2, sRaise0, sBreak, sCont, sRetN, eOp2, eOp1, eOpN, eVar, eC, eIf, eAnd, eOr, eNot, DL.tB, tNot, tAnd, tOr, aCons, aNil, eCall, eSl, oNone, oSome, eChain, Rs.bind_ok, Rs.bind_err, rs1_some, List.getElem?_cons_zero, List.getElem?_cons_succ, List.set_cons_zero, List.set_cons_succ, Bool.not_true, Bool.not_false, Bool.false_eq_true, if_true, if_false, k1, gIx_t0, k2, k3]; rfl, fun f hf => nomatch hf⟩
        | _ => cases hs
theorem g61 : gAdd (.int 60) (.int 1) = some (.int 61) := rfl
/-- one step of a path -/
abbrev bPath (F : List D → Om → Rs D) : EvS := sSeq (sIf stepC (sRet (eOp2 gAdd (eC (.int 60)) (eC (.int 1)))) sNext) (sSeq (sSet 2 (eOp2 gAdd (eOp2 gAdd (eVar 2) (eC (.int 1))) (eCall F (aCons (eOp2 gIx (eVar 3) (eC (.int 1))) (aCons (eVar 1) aNil))))) (sIf (DL.tB (eOp2 gGt (eVar 2) (eC (.int 60)))) (sRet (eVar 2)) sNext))
theorem lPath_run {F : List D → Om → Rs D} {k : Nat} (hF : Fok F k) {v : Sl} {ω : Om} : ∀ (ss : List D) (acc : Nat) (s3 : Sl), (∀ s ∈ ss, Gd s) → acc ≤ 60 →
    (∃ n : Nat, loopF (gdName 3) (bPath F) ss [v, .val (.int (k : Nat)), .val (.int (acc : Nat)), s3] ω = .ok (.rt (.int (n : Nat))) ω ∧ 60 < n ∧ ∀ m, sN (fN k) ss = some m → 60 < acc + m) ∨
    (∃ m s3', loopF (gdName 3) (bPath F) ss [v, .val (.int (k : Nat)), .val (.int (acc : Nat)), s3] ω = .ok (.nx [v, .val (.int (k : Nat)), .val (.int ((acc + m : Nat) : Int)), s3']) ω ∧ sN (fN k) ss = some m ∧ acc + m ≤ 60)
  | [], acc, s3, _, ha => .inr ⟨0, s3, rfl, rfl, ha⟩
  | s :: r, acc, s3, h, ha => by
    have hs := h s (by simp)
    obtain ⟨c1, c2⟩ := stepC_run (v := v) (k := .val (.int (k : Nat))) (a := .val (.int (acc : Nat))) (ω := ω) hs
    have esn : sN (fN k) (s :: r) = match (stepF s).bind (fN k), sN (fN k) r with
      | some a, some b => some (a + b + 1)
      | _, _ => none := rfl
    cases e : stepF s with
    | none =>
      rw [e] at c1
      refine .inl ⟨61, loopF_rt (δ1 := [v, .val (.int (k : Nat)), .val (.int (acc : Nat)), .val s]) rfl ?_, by decide, fun m hm => ?_⟩
      · refine sSeq_rt ((sIf_t c1).trans (sRet_run ?_))
        simp only [sSeq, sIf, sSet, sRet, sNext, sExpr, sFor, sPar2, sRaise0, sBreak, sCont, sRetN, eOp2, eOp1, eOpN, eVar, eC, eIf, eAnd, eOr, eNot, DL.tB, tNot, tAnd, tOr, aCons, aNil, eCall, eSl, oNone, oSome, eChain, Rs.bind_ok, Rs.bind_err, rs1_some, List.getElem?_cons_zero, List.getElem?_cons_succ, List.set_cons_zero, List.set_cons_succ, Bool.not_true, Bool.not_false, Bool.false_eq_true, if_true, if_false, g61]
        rfl
      · rw [esn, e] at hm
        cases hm
    | some f =>
      rw [e] at c1
      obtain ⟨g1, g2⟩ := c2 f e
      obtain ⟨n, n1, n2⟩ := hF f ω g1
      have k1 : gAdd (.int (acc : Nat)) (.int 1) = some (.int ((acc + 1 : Nat) : Int)) := gAdd_nat acc 1
      have k2 := gAdd_nat (acc + 1) n
      have k3 : gGt (.int ((acc + 1 + n : Nat) : Int)) (.int 60) = some (.bl (decide (60 < acc + 1 + n))) := gGt_nat _ 60
      have b1 : bPath F [v, .val (.int (k : Nat)), .val (.int (acc : Nat)), .val s] ω = (sIf (DL.tB (eOp2 gGt (eVar 2) (eC (.int 60)))) (sRet (eVar 2)) sNext) [v, .val (.int (k : Nat)), .val (.int ((acc + 1 + n : Nat) : Int)), .val s] ω := by
        refine (sSeq_run ((sIf_f c1).trans rfl)).trans (sSeq_run (sSet_run ?_))
        simp only [sSeq, sIf, sSet, sRet, sNext, sExpr, sFor, sPar2, sRaise0, sBreak, sCont, sRetN, eOp2, eOp1, eOpN, eVar, eC, eIf, eAnd, eOr, eNot, DL.tB, tNot, tAnd, tOr, aCons, aNil, eCall, eSl, oNone, oSome, eChain, Rs.bind_ok, Rs.bind_err, rs1_some, List.getElem?_cons_zero, List.getElem?_cons_succ, List.set_cons_zero, List.set_cons_succ, Bool.not_true, Bool.not_false, Bool.false_eq_true, if_true, if_false, k1, g2, n1, k2]
      by_cases hb : 60 < acc + 1 + n
      · rw [decide_eq_true hb] at k3
        refine .inl ⟨acc + 1 + n, loopF_rt (δ1 := [v, .val (.int (k : Nat)), .val (.int (acc : Nat)), .val s]) rfl ?_, hb, fun m hm => ?_⟩
        · rw [b1]
          simp only [sSeq, sIf, sSet, sRet, sNext, sExpr, sFor, sPar2, sRaise0, sBreak, sCont, sRetN, eOp2, eOp1, eOpN, eVar, eC, eIf, eAnd, eOr, eNot, DL.tB, tNot, tAnd, tOr, aCons, aNil, eCall, eSl, oNone, oSome, eChain, Rs.bind_ok, Rs.bind_err, rs1_some, List.getElem?_cons_zero, List.getElem?_cons_succ, List.set_cons_zero, List.set_cons_succ, Bool.not_true, Bool.not_false, Bool.false_eq_true, if_true, if_false, k3]
        · rw [esn, e] at hm
          cases e1 : fN k f with
          | none => simp [e1] at hm
          | some a =>
            cases e2 : sN (fN k) r with
            | none => simp [e2] at hm
            | some b =>
              simp [e1, e2] at hm
              rw [e1] at n2
              rcases n2 with n2 | n2 <;> omega
      · rw [decide_eq_false hb] at k3
        have b2 : bPath F [v, .val (.int (k : Nat)), .val (.int (acc : Nat)), .val s] ω = .ok (.nx [v, .val (.int (k : Nat)), .val (.int ((acc + 1 + n : Nat) : Int)), .val s]) ω := by
          rw [b1]
          simp only [sSeq, sIf, sSet, sRet, sNext, sExpr, sFor, sPar2, sRaise0, sBreak, sCont, sRetN, eOp2, eOp1, eOpN, eVar, eC, eIf, eAnd, eOr, eNot, DL.tB, tNot, tAnd, tOr, aCons, aNil, eCall, eSl, oNone, oSome, eChain, Rs.bind_ok, Rs.bind_err, rs1_some, List.getElem?_cons_zero, List.getElem?_cons_succ, List.set_cons_zero, List.set_cons_succ, Bool.not_true, Bool.not_false, Bool.false_eq_true, if_true, if_false, k3]
        have st := loopF_step (g := gdName 3) (body := bPath F) (d := s) (ds := r) (δ := [v, .val (.int (k : Nat)), .val (.int (acc : Nat)), s3]) (ω := ω) rfl b2
        have en : ∃ a, fN k f = some a ∧ n = a := by
          cases e1 : fN k f with
          | none =>
            rw [e1] at n2
            have : 60 < n := n2
            omega
          | some a =>
            rw [e1] at n2
            refine ⟨a, rfl, ?_⟩
            rcases n2 with n2 | n2 <;> omega
        obtain ⟨a, e1, rfl⟩ := en
        rw [st, esn, e]
        simp only [Option.bind_some, e1]
        rcases lPath_run hF (v := v) (ω := ω) r (acc + 1 + n) (.val s) (fun x hx => h x (by simp [hx])) (by omega) with ⟨n', q1, q2, q3⟩ | ⟨m, s3', q1, q2, q3⟩
        · refine .inl ⟨n', q1, q2, fun m hm => ?_⟩
          cases e2 : sN (fN k) r with
          | none => simp [e2] at hm
          | some b =>
            simp [e2] at hm
            have := q3 b e2
            omega
        · refine .inr ⟨n + m + 1, s3', ?_, ?_, by omega⟩
          · rw [q1, show acc + 1 + n + m = acc + (n + m + 1) by omega]
          · rw [q2]
theorem path_nodes_run {F : List D → Om → Rs D} {k : Nat} (hF : Fok F k) {d : D} {ω : Om} (h : Gd d) : ∃ n : Nat, runB 4 (g_path_nodes F) [d, .int (k : Nat)] ω = .ok (.int (n : Nat)) ω ∧ RP (pathN (fN k) d) n := by
  have k1 := isc_tup (good_ok h)
  cases ht : isTup d with
  | false =>
    rw [ht] at k1
    refine ⟨61, runB_eq (ds := [d, .int (k : Nat)]) ?_, ?_⟩
    · show g_path_nodes F [.val d, .val (.int (k : Nat)), .emp, .emp] ω = _
      refine sSeq_rt ((sIf_t (ω1 := ω) ?_).trans (sRet_run ?_))
      · simp only [sSeq, sIf, sSet, sRet, sNext, sExpr, sFor, sPar2, sRaise0, sBreak, sCont, sRetN, eOp2, eOp1, eOpN, eVar, eC, eIf, eAnd, eOr, eNot, DL.tB, tNot, tAnd, tOr, aCons, aNil, eCall, eSl, oNone, oSome, eChain, Rs.bind_ok, Rs.bind_err, rs1_some, List.getElem?_cons_zero, List.getElem?_cons_succ, List.set_cons_zero, List.set_cons_succ, Bool.not_true, Bool.not_false, Bool.false_eq_true, if_true, if_false, k1]
      · simp only [sSeq, sIf, sSet, sRet, sNext, sExpr, sFor, sPar2, sRaise0, sBreak, sCont, sRetN, eOp2, eOp1, eOpN, eVar, eC, eIf, eAnd, eOr, eNot, DL.tB, tNot, tAnd, tOr, aCons, aNil, eCall, eSl, oNone, oSome, eChain, Rs.bind_ok, Rs.bind_err, rs1_some, List.getElem?_cons_zero, List.getElem?_cons_succ, List.set_cons_zero, List.set_cons_succ, Bool.not_true, Bool.not_false, Bool.false_eq_true, if_true, if_false, g61]
        rfl
    · have e : pathN (fN k) d = none := by cases d <;> first | rfl | cases ht
      rw [e]
      show 60 < 61
      decide
  | true =>
    rw [ht] at k1
    cases d <;> first | (cases ht; done) | skip
    rename_i ss
    obtain ⟨h1, h2⟩ := good_tup.mp h
    have k2 : gGt (.int (ss.length : Nat)) (.int 8) = some (.bl (decide (8 < ss.length))) := gGt_nat _ 8
    have ep : pathN (fN k) (.tup ss) = if ss.length ≤ 8 then sN (fN k) ss else none := rfl
    by_cases hl : 8 < ss.length
    · rw [decide_eq_true hl] at k2
      refine ⟨61, runB_eq (ds := [.tup ss, .int (k : Nat)]) ?_, ?_⟩
      · show g_path_nodes F [.val (.tup ss), .val (.int (k : Nat)), .emp, .emp] ω = _
        refine sSeq_rt ((sIf_t (ω1 := ω) ?_).trans (sRet_run ?_))
        · simp only [sSeq, sIf, sSet, sRet, sNext, sExpr, sFor, sPar2, sRaise0, sBreak, sCont, sRetN, eOp2, eOp1, eOpN, eVar, eC, eIf, eAnd, eOr, eNot, DL.tB, tNot, tAnd, tOr, aCons, aNil, eCall, eSl, oNone, oSome, eChain, Rs.bind_ok, Rs.bind_err, rs1_some, List.getElem?_cons_zero, List.getElem?_cons_succ, List.set_cons_zero, List.set_cons_succ, Bool.not_true, Bool.not_false, Bool.false_eq_true, if_true, if_false, k1, gLen_t, k2]
        · simp only [sSeq, sIf, sSet, sRet, sNext, sExpr, sFor, sPar2, sRaise0, sBreak, sCont, sRetN, eOp2, eOp1, eOpN, eVar, eC, eIf, eAnd, eOr, eNot, DL.tB, tNot, tAnd, tOr, aCons, aNil, eCall, eSl, oNone, oSome, eChain, Rs.bind_ok, Rs.bind_err, rs1_some, List.getElem?_cons_zero, List.getElem?_cons_succ, List.set_cons_zero, List.set_cons_succ, Bool.not_true, Bool.not_false, Bool.false_eq_true, if_true, if_false, g61]
          rfl
      · rw [ep, if_neg (by omega)]
        show 60 < 61
        decide
    · rw [decide_eq_false hl] at k2
      rw [ep, if_pos (by omega)]
      have c1 : (sIf (tOr (tNot (DL.tB (eOpN (gIsc kb) (aCons (eVar 0) (aCons (eC (.ty "tuple")) aNil))))) (DL.tB (eOp2 gGt (eOpN gLen (aCons (eVar 0) aNil)) (eC (.int 8))))) (sRet (eOp2 gAdd (eC (.int 60)) (eC (.int 1)))) sNext) [.val (.tup ss), .val (.int (k : Nat)), .emp, .emp] ω = .ok (.nx [.val (.tup ss), .val (.int (k : Nat)), .emp, .emp]) ω := by
        simp only [sSeq, sIf, sSet, sRet, sNext, sExpr, sFor, sPar2, sRaise0, sBreak, sCont, sRetN, eOp2, eOp1, eOpN, eVar, eC, eIf, eAnd, eOr, eNot, DL.tB, tNot, tAnd, tOr, aCons, aNil, eCall, eSl, oNone, oSome, eChain, Rs.bind_ok, Rs.bind_err, rs1_some, List.getElem?_cons_zero, List.getElem?_cons_succ, List.set_cons_zero, List.set_cons_succ, Bool.not_true, Bool.not_false, Bool.false_eq_true, if_true, if_false, k1, gLen_t, k2]
      have c2 : sSet 2 (eC (.int 0)) [.val (.tup ss), .val (.int (k : Nat)), .emp, .emp] ω = .ok (.nx [.val (.tup ss), .val (.int (k : Nat)), .val (.int 0), .emp]) ω := rfl
      have ei : iAny (eVar 0) [.val (.tup ss), .val (.int (k : Nat)), .val (.int 0), .emp] ω = .ok ss ω := iAny_t rfl
      have eg : g_path_nodes F [.val (.tup ss), .val (.int (k : Nat)), .emp, .emp] ω = sSeq (sFor (iAny (eVar 0)) (gdName 3) (bPath F)) (sRet (eVar 2)) [.val (.tup ss), .val (.int (k : Nat)), .val (.int 0), .emp] ω := (sSeq_run c1).trans (sSeq_run c2)
      rcases lPath_run hF (v := .val (.tup ss)) (ω := ω) ss 0 .emp h2 (by decide) with ⟨n', q1, q2, q3⟩ | ⟨m, s3', q1, q2, q3⟩
      · refine ⟨n', runB_eq (ds := [.tup ss, .int (k : Nat)]) (eg.trans (sSeq_rt ((sFor_run ei).trans q1))), ?_⟩
        cases e : sN (fN k) ss with
        | none => exact q2
        | some m => exact .inr ⟨q2, by have := q3 m e; omega⟩
      · refine ⟨m, runB_eq (ds := [.tup ss, .int (k : Nat)]) (eg.trans ((sSeq_run ((sFor_run ei).trans q1)).trans ?_)), ?_⟩
        · simp only [sSeq, sIf, sSet, sRet, sNext, sExpr, sFor, sPar2, sRaise0, sBreak, sCont, sRetN, eOp2, eOp1, eOpN, eVar, eC, eIf, eAnd, eOr, eNot, DL.tB, tNot, tAnd, tOr, aCons, aNil, eCall, eSl, oNone, oSome, eChain, Rs.bind_ok, Rs.bind_err, rs1_some, List.getElem?_cons_zero, List.getElem?_cons_succ, List.set_cons_zero, List.set_cons_succ, Bool.not_true, Bool.not_false, Bool.false_eq_true, if_true, if_false, Nat.zero_add]
        · rw [q2]
          exact .inl rfl
end K24

namespace K24
open PySem DL
/-! ### filters -/
theorem fN_1 {k : Nat} {h : Str} : fN (k + 1) (.tup [.str h]) = if h = "true" then some 1 else none := rfl
theorem fN_2 {k : Nat} {h : Str} {a : D} : fN (k + 1) (.tup [.str h, a]) = if h = "label" then (if nameD a = true then some 1 else none) else if h = "some" then (pathN (fN k) a).map (· + 1) else if h = "not" then (fN k a).map (· + 1) else none := rfl
theorem fN_3 {k : Nat} {h : Str} {a b : D} : fN (k + 1) (.tup [.str h, a, b]) = if h = "and" ∨ h = "or" then (match fN k a, fN k b with
    | some x, some y => some (x + y + 1)
    | _, _ => none) else none := rfl
theorem fN_4 {k : Nat} {h : Str} {a b c : D} {r : List D} : fN (k + 1) (.tup (.str h :: a :: b :: c :: r)) = none := rfl
theorem fN_no {k : Nat} {d : D} (h : headB d = false) : fN k d = none := by
  cases k with
  | zero => rfl
  | succ k =>
    unfold fN
    split <;> first | rfl | (cases h; done) | (rename_i e; cases e; done)
theorem fN_not {k : Nat} {h : Str} {r : List D} (h1 : h ≠ "true") (h2 : h ≠ "label") (h3 : h ≠ "some") (h4 : h ≠ "not") (h5 : h ≠ "and") (h6 : h ≠ "or") : fN (k + 1) (.tup (.str h :: r)) = none := by
  match r with
  | [] => rw [fN_1, if_neg h1]
  | [a] => rw [fN_2, if_neg h2, if_neg h3, if_neg h4]
  | [a, b] => rw [fN_3, if_neg (fun z => z.elim h5 h6)]
  | a :: b :: c :: r => rfl
def manyD : D := .map ["not", "and", "or"] [.int 2, .int 3, .int 3]
theorem valD_many (h : Str) : valD ["not", "and", "or"] [.int 2, .int 3, .int 3] h = if "not" = h then some (.int 2) else if "and" = h then some (.int 3) else if "or" = h then some (.int 3) else none := rfl
theorem gSum_1 {a : Int} : gSum [.lst [.int a]] = some (.int a) := by
  have := gSum_map (fun x : Int => x) [a]
  simpa using this
theorem gSum_2 {a b : Int} : gSum [.lst [.int a, .int b]] = some (.int (a + b)) := by
  have := gSum_map (fun x : Int => x) [a, b]
  simpa using this
section
variable {F P : List D → Om → Rs D} {k : Nat} {ω : Om}
theorem head_run {d : D} (h : Gd d) : (sIf (tOr (DL.tB (eOp2 gEqX (eVar 1) (eC (.int 0)))) (tNot (DL.tB (eCall f_is_headed (aCons (eVar 0) aNil))))) (sRet (eOp2 gAdd (eC (.int 60)) (eC (.int 1)))) sNext) [.val d, .val (.int ((k + 1 : Nat) : Int)), .emp, .emp] ω = if headB d = true then .ok (.nx [.val d, .val (.int ((k + 1 : Nat) : Int)), .emp, .emp]) ω else .ok (.rt (.int 61)) ω := by
  have k1 : gEqX (.int ((k + 1 : Nat) : Int)) (.int 0) = some (.bl false) := by
    have := gEqX_nat (k + 1) 0
    rw [decide_eq_false (by omega)] at this
    exact this
  have k2 := is_headed_run (ω := ω) h
  cases hh : headB d with
  | false =>
    rw [hh] at k2
    simp only [sSeq, sIf, sSet, sRet, sNext, sExpr, sFor, sPar2, sRaise0, sBreak, sCont, sRetN, eOp2, eOp1, eOpN, eVar, eC, eIf, eAnd, eOr, eNot, DL.tB, tNot, tAnd, tOr, aCons, aNil, eCall, eSl, oNone, oSome, eChain, Rs.bind_ok, Rs.bind_err, rs1_some, List.getElem?_cons_zero, List.getElem?_cons_succ, List.set_cons_zero, List.set_cons_succ, Bool.not_true, Bool.not_false, Bool.false_eq_true, if_true, if_false, k1, k2, g61]
  | true =>
    rw [hh] at k2
    simp only [sSeq, sIf, sSet, sRet, sNext, sExpr, sFor, sPar2, sRaise0, sBreak, sCont, sRetN, eOp2, eOp1, eOpN, eVar, eC, eIf, eAnd, eOr, eNot, DL.tB, tNot, tAnd, tOr, aCons, aNil, eCall, eSl, oNone, oSome, eChain, Rs.bind_ok, Rs.bind_err, rs1_some, List.getElem?_cons_zero, List.getElem?_cons_succ, List.set_cons_zero, List.set_cons_succ, Bool.not_true, Bool.not_false, Bool.false_eq_true, if_true, if_false, k1, k2]
theorem comp_1 {a : D} {m : Nat} {h : D} {x y : Sl} (ha : F [a, .int (k : Nat)] ω = .ok (.int (m : Nat)) ω) (hk : gSub (.int ((k + 1 : Nat) : Int)) (.int 1) = some (.int (k : Nat))) : eComp (iAny (eSl gSl (eVar 0) (oSome (eC (.int 1))) oNone)) (gdName 3) tTrue (eCall F (aCons (eVar 3) (aCons (eOp2 gSub (eVar 1) (eC (.int 1))) aNil))) [3] [.val (.tup [h, a]), .val (.int ((k + 1 : Nat) : Int)), x, .emp] ω = .ok (.lst [.int (m : Nat)]) ω := by
  refine eComp_run (ds := [a]) (ω1 := ω) (iAny_t ?_) ?_
  · simp only [sSeq, sIf, sSet, sRet, sNext, sExpr, sFor, sPar2, sRaise0, sBreak, sCont, sRetN, eOp2, eOp1, eOpN, eVar, eC, eIf, eAnd, eOr, eNot, DL.tB, tNot, tAnd, tOr, aCons, aNil, eCall, eSl, oNone, oSome, eChain, Rs.bind_ok, Rs.bind_err, rs1_some, List.getElem?_cons_zero, List.getElem?_cons_succ, List.set_cons_zero, List.set_cons_succ, Bool.not_true, Bool.not_false, Bool.false_eq_true, if_true, if_false, gSl_t1]
  · refine compF_map (u := fun _ : Unit => a) (v := fun _ => D.int (m : Nat)) [()] fun _ _ => ⟨[.val (.tup [h, a]), .val (.int ((k + 1 : Nat) : Int)), x, .val a], rfl, ?_⟩
    simp only [sSeq, sIf, sSet, sRet, sNext, sExpr, sFor, sPar2, sRaise0, sBreak, sCont, sRetN, eOp2, eOp1, eOpN, eVar, eC, eIf, eAnd, eOr, eNot, DL.tB, tNot, tAnd, tOr, aCons, aNil, eCall, eSl, oNone, oSome, eChain, Rs.bind_ok, Rs.bind_err, rs1_some, List.getElem?_cons_zero, List.getElem?_cons_succ, List.set_cons_zero, List.set_cons_succ, Bool.not_true, Bool.not_false, Bool.false_eq_true, if_true, if_false, hk, ha]
theorem comp_2 {a b : D} {m n : Nat} {h : D} {x : Sl} (ha : F [a, .int (k : Nat)] ω = .ok (.int (m : Nat)) ω) (hb : F [b, .int (k : Nat)] ω = .ok (.int (n : Nat)) ω) (hk : gSub (.int ((k + 1 : Nat) : Int)) (.int 1) = some (.int (k : Nat))) : eComp (iAny (eSl gSl (eVar 0) (oSome (eC (.int 1))) oNone)) (gdName 3) tTrue (eCall F (aCons (eVar 3) (aCons (eOp2 gSub (eVar 1) (eC (.int 1))) aNil))) [3] [.val (.tup [h, a, b]), .val (.int ((k + 1 : Nat) : Int)), x, .emp] ω = .ok (.lst [.int (m : Nat), .int (n : Nat)]) ω := by
  refine eComp_run (ds := [a, b]) (ω1 := ω) (iAny_t ?_) ?_
  · simp only [sSeq, sIf, sSet, sRet, sNext, sExpr, sFor, sPar2, sRaise0, sBreak, sCont, sRetN, eOp2, eOp1, eOpN, eVar, eC, eIf, eAnd, eOr, eNot, DL.tB, tNot, tAnd, tOr, aCons, aNil, eCall, eSl, oNone, oSome, eChain, Rs.bind_ok, Rs.bind_err, rs1_some, List.getElem?_cons_zero, List.getElem?_cons_succ, List.set_cons_zero, List.set_cons_succ, Bool.not_true, Bool.not_false, Bool.false_eq_true, if_true, if_false, gSl_t1]
  · refine compF_map (u := fun t : Bool => if t = true then a else b) (v := fun t => if t = true then D.int (m : Nat) else .int (n : Nat)) [true, false] fun t _ => ⟨[.val (.tup [h, a, b]), .val (.int ((k + 1 : Nat) : Int)), x, .val (if t = true then a else b)], rfl, ?_⟩
    cases t <;> simp only [sSeq, sIf, sSet, sRet, sNext, sExpr, sFor, sPar2, sRaise0, sBreak, sCont, sRetN, eOp2, eOp1, eOpN, eVar, eC, eIf, eAnd, eOr, eNot, DL.tB, tNot, tAnd, tOr, aCons, aNil, eCall, eSl, oNone, oSome, eChain, Rs.bind_ok, Rs.bind_err, rs1_some, List.getElem?_cons_zero, List.getElem?_cons_succ, List.set_cons_zero, List.set_cons_succ, Bool.not_true, Bool.not_false, Bool.false_eq_true, if_true, if_false, hk, ha, hb]
theorem filter_nodes_run (hF : Fok F k) (hP : ∀ d ω, Gd d → ∃ n : Nat, P [d, .int (k : Nat)] ω = .ok (.int (n : Nat)) ω ∧ RP (pathN (fN k) d) n) {d : D} (h : Gd d) : ∃ n : Nat, runB 4 (g_filter_nodes F P) [d, .int ((k + 1 : Nat) : Int)] ω = .ok (.int (n : Nat)) ω ∧ RP (fN (k + 1) d) n := by
  have h0 := head_run (k := k) (ω := ω) h
  have r61 : RP none 61 := by show 60 < 61; decide
  cases hh : headB d with
  | false =>
    rw [hh, if_neg (by decide)] at h0
    refine ⟨61, runB_eq (ds := [d, .int ((k + 1 : Nat) : Int)]) ?_, by rw [fN_no hh]; exact r61⟩
    exact sSeq_rt h0
  | true =>
    rw [hh, if_pos rfl] at h0
    obtain ⟨z, r, rfl⟩ : ∃ z r, d = .tup (.str z :: r) := by
      unfold headB at hh
      split at hh
      · exact ⟨_, _, rfl⟩
      · cases hh
    obtain ⟨l1, l2⟩ := good_tup.mp h
    have hr : ∀ x ∈ r, Gd x := fun x hx => l2 x (by simp [hx])
    have k1 := gEqX_ss z "true"
    have k2 := gEqX_ss z "label"
    have k3 := gEqX_ss z "some"
    have hk : gSub (.int ((k + 1 : Nat) : Int)) (.int 1) = some (.int (k : Nat)) := gSub_nat (k + 1) 1 (by omega)
    suffices q : ∃ n : Nat, g_filter_nodes F P [.val (.tup (.str z :: r)), .val (.int ((k + 1 : Nat) : Int)), .emp, .emp] ω = .ok (.rt (.int (n : Nat))) ω ∧ RP (fN (k + 1) (.tup (.str z :: r))) n by
      obtain ⟨n, q1, q2⟩ := q
      exact ⟨n, runB_eq (ds := [.tup (.str z :: r), .int ((k + 1 : Nat) : Int)]) q1, q2⟩
    unfold g_filter_nodes
    rw [sSeq_run h0]
    by_cases z1 : z = "true"
    · rw [decide_eq_true z1] at k1
      have k4 := is_alone_run (ds := .str z :: r) (ω := ω)
      subst z1
      match r, k4 with
      | [], k4 => exact ⟨1, by simp only [sSeq, sIf, sSet, sRet, sNext, sExpr, sFor, sPar2, sRaise0, sBreak, sCont, sRetN, eOp2, eOp1, eOpN, eVar, eC, eIf, eAnd, eOr, eNot, DL.tB, tNot, tAnd, tOr, aCons, aNil, eCall, eSl, oNone, oSome, eChain, Rs.bind_ok, Rs.bind_err, rs1_some, List.getElem?_cons_zero, List.getElem?_cons_succ, List.set_cons_zero, List.set_cons_succ, Bool.not_true, Bool.not_false, Bool.false_eq_true, if_true, if_false, gIx_t0, k1, k4]; rfl, .inl rfl⟩
      | [a], k4 => exact ⟨61, by simp only [sSeq, sIf, sSet, sRet, sNext, sExpr, sFor, sPar2, sRaise0, sBreak, sCont, sRetN, eOp2, eOp1, eOpN, eVar, eC, eIf, eAnd, eOr, eNot, DL.tB, tNot, tAnd, tOr, aCons, aNil, eCall, eSl, oNone, oSome, eChain, Rs.bind_ok, Rs.bind_err, rs1_some, List.getElem?_cons_zero, List.getElem?_cons_succ, List.set_cons_zero, List.set_cons_succ, Bool.not_true, Bool.not_false, Bool.false_eq_true, if_true, if_false, gIx_t0, k1, k4, g61]; rfl, by rw [fN_2, if_neg (by decide), if_neg (by decide), if_neg (by decide)]; exact r61⟩
      | [a, b], k4 => exact ⟨61, by simp only [sSeq, sIf, sSet, sRet, sNext, sExpr, sFor, sPar2, sRaise0, sBreak, sCont, sRetN, eOp2, eOp1, eOpN, eVar, eC, eIf, eAnd, eOr, eNot, DL.tB, tNot, tAnd, tOr, aCons, aNil, eCall, eSl, oNone, oSome, eChain, Rs.bind_ok, Rs.bind_err, rs1_some, List.getElem?_cons_zero, List.getElem?_cons_succ, List.set_cons_zero, List.set_cons_succ, Bool.not_true, Bool.not_false, Bool.false_eq_true, if_true, if_false, gIx_t0, k1, k4, g61]; rfl, by rw [fN_3, if_neg (by decide)]; exact r61⟩
      | a :: b :: c :: r, k4 =>
        have e : decide ((D.str "true" :: a :: b :: c :: r).length = 1) = false := decide_eq_false (by simp only [List.length_cons]; omega)
        rw [e] at k4
        exact ⟨61, by simp only [sSeq, sIf, sSet, sRet, sNext, sExpr, sFor, sPar2, sRaise0, sBreak, sCont, sRetN, eOp2, eOp1, eOpN, eVar, eC, eIf, eAnd, eOr, eNot, DL.tB, tNot, tAnd, tOr, aCons, aNil, eCall, eSl, oNone, oSome, eChain, Rs.bind_ok, Rs.bind_err, rs1_some, List.getElem?_cons_zero, List.getElem?_cons_succ, List.set_cons_zero, List.set_cons_succ, Bool.not_true, Bool.not_false, Bool.false_eq_true, if_true, if_false, gIx_t0, k1, k4, g61]; rfl, r61⟩
    · rw [decide_eq_false z1] at k1
      by_cases z2 : z = "label"
      · rw [decide_eq_true z2] at k2
        have k4 := is_named_run (ds := .str z :: r) (ω := ω) l2
        subst z2
        match r, k4 with
        | [], k4 => exact ⟨61, by simp only [sSeq, sIf, sSet, sRet, sNext, sExpr, sFor, sPar2, sRaise0, sBreak, sCont, sRetN, eOp2, eOp1, eOpN, eVar, eC, eIf, eAnd, eOr, eNot, DL.tB, tNot, tAnd, tOr, aCons, aNil, eCall, eSl, oNone, oSome, eChain, Rs.bind_ok, Rs.bind_err, rs1_some, List.getElem?_cons_zero, List.getElem?_cons_succ, List.set_cons_zero, List.set_cons_succ, Bool.not_true, Bool.not_false, Bool.false_eq_true, if_true, if_false, gIx_t0, k1, k2, k4, g61]; rfl, by rw [fN_1, if_neg (by decide)]; exact r61⟩
        | [a], k4 =>
          have en : namedB [.str "label", a] = nameD a := rfl
          rw [en] at k4
          rw [fN_2, if_pos rfl]
          cases hn : nameD a with
          | true =>
            rw [hn] at k4
            exact ⟨1, by simp only [sSeq, sIf, sSet, sRet, sNext, sExpr, sFor, sPar2, sRaise0, sBreak, sCont, sRetN, eOp2, eOp1, eOpN, eVar, eC, eIf, eAnd, eOr, eNot, DL.tB, tNot, tAnd, tOr, aCons, aNil, eCall, eSl, oNone, oSome, eChain, Rs.bind_ok, Rs.bind_err, rs1_some, List.getElem?_cons_zero, List.getElem?_cons_succ, List.set_cons_zero, List.set_cons_succ, Bool.not_true, Bool.not_false, Bool.false_eq_true, if_true, if_false, gIx_t0, k1, k2, k4]; rfl, .inl rfl⟩
          | false =>
            rw [hn] at k4
            exact ⟨61, by simp only [sSeq, sIf, sSet, sRet, sNext, sExpr, sFor, sPar2, sRaise0, sBreak, sCont, sRetN, eOp2, eOp1, eOpN, eVar, eC, eIf, eAnd, eOr, eNot, DL.tB, tNot, tAnd, tOr, aCons, aNil, eCall, eSl, oNone, oSome, eChain, Rs.bind_ok, Rs.bind_err, rs1_some, List.getElem?_cons_zero, List.getElem?_cons_succ, List.set_cons_zero, List.set_cons_succ, Bool.not_true, Bool.not_false, Bool.false_eq_true, if_true, if_false, gIx_t0, k1, k2, k4, g61]; rfl, r61⟩
        | [a, b], k4 => exact ⟨61, by simp only [sSeq, sIf, sSet, sRet, sNext, sExpr, sFor, sPar2, sRaise0, sBreak, sCont, sRetN, eOp2, eOp1, eOpN, eVar, eC, eIf, eAnd, eOr, eNot, DL.tB, tNot, tAnd, tOr, aCons, aNil, eCall, eSl, oNone, oSome, eChain, Rs.bind_ok, Rs.bind_err, rs1_some, List.getElem?_cons_zero, List.getElem?_cons_succ, List.set_cons_zero, List.set_cons_succ, Bool.not_true, Bool.not_false, Bool.false_eq_true, if_true, if_false, gIx_t0, k1, k2, k4, g61]; rfl, by rw [fN_3, if_neg (by decide)]; exact r61⟩
        | a :: b :: c :: r, k4 => exact ⟨61, by simp only [sSeq, sIf, sSet, sRet, sNext, sExpr, sFor, sPar2, sRaise0, sBreak, sCont, sRetN, eOp2, eOp1, eOpN, eVar, eC, eIf, eAnd, eOr, eNot, DL.tB, tNot, tAnd, tOr, aCons, aNil, eCall, eSl, oNone, oSome, eChain, Rs.bind_ok, Rs.bind_err, rs1_some, List.getElem?_cons_zero, List.getElem?_cons_succ, List.set_cons_zero, List.set_cons_succ, Bool.not_true, Bool.not_false, Bool.false_eq_true, if_true, if_false, gIx_t0, k1, k2, k4, g61]; rfl, r61⟩
      · rw [decide_eq_false z2] at k2
        have k5 : gEqX (.int ((D.str z :: r).length : Nat)) (.int 2) = some (.bl (decide ((D.str z :: r).length = 2))) := gEqX_nat _ 2
        by_cases z3 : z = "some"
        · rw [decide_eq_true z3] at k3
          subst z3
          match r, k5, hr with
          | [], k5, _ => exact ⟨61, by simp only [sSeq, sIf, sSet, sRet, sNext, sExpr, sFor, sPar2, sRaise0, sBreak, sCont, sRetN, eOp2, eOp1, eOpN, eVar, eC, eIf, eAnd, eOr, eNot, DL.tB, tNot, tAnd, tOr, aCons, aNil, eCall, eSl, oNone, oSome, eChain, Rs.bind_ok, Rs.bind_err, rs1_some, List.getElem?_cons_zero, List.getElem?_cons_succ, List.set_cons_zero, List.set_cons_succ, Bool.not_true, Bool.not_false, Bool.false_eq_true, if_true, if_false, gIx_t0, k1, k2, k3, gLen_t, k5, g61]; rfl, by rw [fN_1, if_neg (by decide)]; exact r61⟩
          | [a], k5, hr =>
            obtain ⟨n, n1, n2⟩ := hP a ω (hr a (by simp))
            have k6 : gAdd (.int 1) (.int (n : Nat)) = some (.int ((1 + n : Nat) : Int)) := gAdd_nat 1 n
            have k5' : gEqX (.int (([D.str "some", a].length : Nat) : Int)) (.int 2) = some (.bl true) := k5
            refine ⟨1 + n, by simp only [sSeq, sIf, sSet, sRet, sNext, sExpr, sFor, sPar2, sRaise0, sBreak, sCont, sRetN, eOp2, eOp1, eOpN, eVar, eC, eIf, eAnd, eOr, eNot, DL.tB, tNot, tAnd, tOr, aCons, aNil, eCall, eSl, oNone, oSome, eChain, Rs.bind_ok, Rs.bind_err, rs1_some, List.getElem?_cons_zero, List.getElem?_cons_succ, List.set_cons_zero, List.set_cons_succ, Bool.not_true, Bool.not_false, Bool.false_eq_true, if_true, if_false, gIx_t0, gIx_t1, k1, k2, k3, gLen_t, k5', hk, n1, k6], ?_⟩
            rw [fN_2, if_neg (by decide), if_pos rfl]
            cases e : pathN (fN k) a with
            | none =>
              rw [e] at n2
              have n2' : 60 < n := n2
              show 60 < 1 + n
              omega
            | some m =>
              rw [e] at n2
              show 1 + n = m + 1 ∨ (60 < 1 + n ∧ 60 < m + 1)
              rcases n2 with n2 | n2 <;> omega
          | [a, b], k5, _ => exact ⟨61, by simp only [sSeq, sIf, sSet, sRet, sNext, sExpr, sFor, sPar2, sRaise0, sBreak, sCont, sRetN, eOp2, eOp1, eOpN, eVar, eC, eIf, eAnd, eOr, eNot, DL.tB, tNot, tAnd, tOr, aCons, aNil, eCall, eSl, oNone, oSome, eChain, Rs.bind_ok, Rs.bind_err, rs1_some, List.getElem?_cons_zero, List.getElem?_cons_succ, List.set_cons_zero, List.set_cons_succ, Bool.not_true, Bool.not_false, Bool.false_eq_true, if_true, if_false, gIx_t0, k1, k2, k3, gLen_t, k5, g61]; rfl, by rw [fN_3, if_neg (by decide)]; exact r61⟩
          | a :: b :: c :: r, k5, _ =>
            have e : decide ((D.str "some" :: a :: b :: c :: r).length = 2) = false := decide_eq_false (by simp only [List.length_cons]; omega)
            rw [e] at k5
            exact ⟨61, by simp only [sSeq, sIf, sSet, sRet, sNext, sExpr, sFor, sPar2, sRaise0, sBreak, sCont, sRetN, eOp2, eOp1, eOpN, eVar, eC, eIf, eAnd, eOr, eNot, DL.tB, tNot, tAnd, tOr, aCons, aNil, eCall, eSl, oNone, oSome, eChain, Rs.bind_ok, Rs.bind_err, rs1_some, List.getElem?_cons_zero, List.getElem?_cons_succ, List.set_cons_zero, List.set_cons_succ, Bool.not_true, Bool.not_false, Bool.false_eq_true, if_true, if_false, gIx_t0, k1, k2, k3, gLen_t, k5, g61]; rfl, r61⟩
        · rw [decide_eq_false z3] at k3
          have go : ∀ (v : D) (g : Nat), valD ["not", "and", "or"] [.int 2, .int 3, .int 3] z = some (.int (g : Nat)) → (D.str z :: r).length ≠ g → ∃ n : Nat, (sSeq (sIf (DL.tB (eOp2 gEqX (eOp2 gIx (eVar 0) (eC (.int 0))) (eC (.str "true")))) (sRet (eIf (DL.tB (eCall f_is_alone (aCons (eVar 0) aNil))) (eC (.int 1)) (eOp2 gAdd (eC (.int 60)) (eC (.int 1))))) sNext) (sSeq (sIf (DL.tB (eOp2 gEqX (eOp2 gIx (eVar 0) (eC (.int 0))) (eC (.str "label")))) (sRet (eIf (DL.tB (eCall f_is_named (aCons (eVar 0) aNil))) (eC (.int 1)) (eOp2 gAdd (eC (.int 60)) (eC (.int 1))))) sNext) (sSeq (sIf (DL.tB (eOp2 gEqX (eOp2 gIx (eVar 0) (eC (.int 0))) (eC (.str "some")))) (sRet (eIf (DL.tB (eOp2 gEqX (eOpN gLen (aCons (eVar 0) aNil)) (eC (.int 2)))) (eOp2 gAdd (eC (.int 1)) (eCall P (aCons (eOp2 gIx (eVar 0) (eC (.int 1))) (aCons (eOp2 gSub (eVar 1) (eC (.int 1))) aNil)))) (eOp2 gAdd (eC (.int 60)) (eC (.int 1))))) sNext) (sSeq (sSet 2 (eC (.map ["not", "and", "or"] [.int 2, .int 3, .int 3]))) (sSeq (sIf (tOr (DL.tB (eOp2 (gDIn true) (eOp2 gIx (eVar 0) (eC (.int 0))) (eVar 2))) (DL.tB (eOp2 gNeX (eOpN gLen (aCons (eVar 0) aNil)) (eOp2 gDIx (eVar 2) (eOp2 gIx (eVar 0) (eC (.int 0))))))) (sRet (eOp2 gAdd (eC (.int 60)) (eC (.int 1)))) sNext) (sRet (eOp2 gAdd (eC (.int 1)) (eOpN gSum (aCons (eComp (iAny (eSl gSl (eVar 0) (oSome (eC (.int 1))) oNone)) (gdName 3) tTrue (eCall F (aCons (eVar 3) (aCons (eOp2 gSub (eVar 1) (eC (.int 1))) aNil))) [3]) aNil))))))))) [.val (.tup (.str z :: r)), .val (.int ((k + 1 : Nat) : Int)), .emp, .emp] ω = .ok (.rt (.int (n : Nat))) ω ∧ n = 61 := by
            intro _ g hv hl
            have a1 : gDIn true (.str z) (.map ["not", "and", "or"] [.int 2, .int 3, .int 3]) = some (.bl false) := by
              show some (D.bl (!(valD ["not", "and", "or"] [.int 2, .int 3, .int 3] z).isSome)) = _
              rw [hv]
              rfl
            have a2 : gDIx (.map ["not", "and", "or"] [.int 2, .int 3, .int 3]) (.str z) = some (.int (g : Nat)) := hv
            have a3 : gNeX (.int ((D.str z :: r).length : Nat)) (.int (g : Nat)) = some (.bl true) := by
              rw [gNeX_nat, decide_eq_false hl]
              rfl
            exact ⟨61, by simp only [sSeq, sIf, sSet, sRet, sNext, sExpr, sFor, sPar2, sRaise0, sBreak, sCont, sRetN, eOp2, eOp1, eOpN, eVar, eC, eIf, eAnd, eOr, eNot, DL.tB, tNot, tAnd, tOr, aCons, aNil, eCall, eSl, oNone, oSome, eChain, Rs.bind_ok, Rs.bind_err, rs1_some, List.getElem?_cons_zero, List.getElem?_cons_succ, List.set_cons_zero, List.set_cons_succ, Bool.not_true, Bool.not_false, Bool.false_eq_true, if_true, if_false, gIx_t0, k1, k2, k3, a1, a2, a3, gLen_t, g61]; rfl, rfl⟩
          have go2 : ∀ (g : Nat), valD ["not", "and", "or"] [.int 2, .int 3, .int 3] z = some (.int (g : Nat)) → (D.str z :: r).length = g → gDIn true (.str z) (.map ["not", "and", "or"] [.int 2, .int 3, .int 3]) = some (.bl false) ∧ gDIx (.map ["not", "and", "or"] [.int 2, .int 3, .int 3]) (.str z) = some (.int (g : Nat)) ∧ gNeX (.int ((D.str z :: r).length : Nat)) (.int (g : Nat)) = some (.bl false) := by
            intro g hv hl
            refine ⟨?_, hv, ?_⟩
            · show some (D.bl (!(valD ["not", "and", "or"] [.int 2, .int 3, .int 3] z).isSome)) = _
              rw [hv]
              rfl
            · rw [gNeX_nat, decide_eq_true hl]
              rfl
          by_cases z4 : z = "not"
          · subst z4
            have hv : valD ["not", "and", "or"] [.int 2, .int 3, .int 3] "not" = some (.int ((2 : Nat) : Int)) := rfl
            match r, go, go2, hr with
            | [], go, _, _ =>
              obtain ⟨n, q1, rfl⟩ := go .non 2 hv (by decide)
              exact ⟨61, q1, by rw [fN_1, if_neg (by decide)]; exact r61⟩
            | [a], _, go2, hr =>
              obtain ⟨a1, a2, a3⟩ := go2 2 hv rfl
              obtain ⟨m, m1, m2⟩ := hF a ω (hr a (by simp))
              have c := comp_1 (F := F) (h := .str "not") (x := .val (.map ["not", "and", "or"] [.int 2, .int 3, .int 3])) (y := .emp) m1 hk
              have k6 : gAdd (.int 1) (.int (m : Nat)) = some (.int ((1 + m : Nat) : Int)) := gAdd_nat 1 m
              refine ⟨1 + m, by simp only [sSeq, sIf, sSet, sRet, sNext, sExpr, sFor, sPar2, sRaise0, sBreak, sCont, sRetN, eOp2, eOp1, eOpN, eVar, eC, eIf, eAnd, eOr, eNot, DL.tB, tNot, tAnd, tOr, aCons, aNil, eCall, eSl, oNone, oSome, eChain, Rs.bind_ok, Rs.bind_err, rs1_some, List.getElem?_cons_zero, List.getElem?_cons_succ, List.set_cons_zero, List.set_cons_succ, Bool.not_true, Bool.not_false, Bool.false_eq_true, if_true, if_false, gIx_t0, k1, k2, k3, a1, a2, a3, gLen_t, c, gSum_1, k6], ?_⟩
              rw [fN_2, if_neg (by decide), if_neg (by decide), if_pos rfl]
              cases e : fN k a with
              | none =>
                rw [e] at m2
                have m2' : 60 < m := m2
                show 60 < 1 + m
                omega
              | some b =>
                rw [e] at m2
                show 1 + m = b + 1 ∨ (60 < 1 + m ∧ 60 < b + 1)
                rcases m2 with m2 | m2 <;> omega
            | [a, b], go, _, _ =>
              obtain ⟨n, q1, rfl⟩ := go .non 2 hv (by simp)
              exact ⟨61, q1, by rw [fN_3, if_neg (by decide)]; exact r61⟩
            | a :: b :: c :: r, go, _, _ =>
              obtain ⟨n, q1, rfl⟩ := go .non 2 hv (by simp only [List.length_cons]; omega)
              exact ⟨61, q1, r61⟩
          · by_cases z5 : z = "and" ∨ z = "or"
            · have hv : valD ["not", "and", "or"] [.int 2, .int 3, .int 3] z = some (.int ((3 : Nat) : Int)) := by
                rw [valD_many, if_neg (fun q => z4 q.symm)]
                rcases z5 with rfl | rfl <;> rfl
              match r, go, go2, hr with
              | [], go, _, _ =>
                obtain ⟨n, q1, rfl⟩ := go .non 3 hv (by simp)
                exact ⟨61, q1, by rw [fN_1, if_neg z1]; exact r61⟩
              | [a], go, _, _ =>
                obtain ⟨n, q1, rfl⟩ := go .non 3 hv (by simp)
                exact ⟨61, q1, by rw [fN_2, if_neg z2, if_neg z3, if_neg z4]; exact r61⟩
              | [a, b], _, go2, hr =>
                obtain ⟨a1, a2, a3⟩ := go2 3 hv rfl
                obtain ⟨m, m1, m2⟩ := hF a ω (hr a (by simp))
                obtain ⟨n, n1, n2⟩ := hF b ω (hr b (by simp))
                have c := comp_2 (F := F) (h := .str z) (x := .val (.map ["not", "and", "or"] [.int 2, .int 3, .int 3])) m1 n1 hk
                have k6 : gAdd (.int 1) (.int ((m : Nat) + (n : Nat) : Int)) = some (.int ((1 + (m + n) : Nat) : Int)) := gAdd_nat 1 (m + n)
                refine ⟨1 + (m + n), by simp only [sSeq, sIf, sSet, sRet, sNext, sExpr, sFor, sPar2, sRaise0, sBreak, sCont, sRetN, eOp2, eOp1, eOpN, eVar, eC, eIf, eAnd, eOr, eNot, DL.tB, tNot, tAnd, tOr, aCons, aNil, eCall, eSl, oNone, oSome, eChain, Rs.bind_ok, Rs.bind_err, rs1_some, List.getElem?_cons_zero, List.getElem?_cons_succ, List.set_cons_zero, List.set_cons_succ, Bool.not_true, Bool.not_false, Bool.false_eq_true, if_true, if_false, gIx_t0, k1, k2, k3, a1, a2, a3, gLen_t, c, gSum_2, k6], ?_⟩
                rw [fN_3, if_pos z5]
                cases e : fN k a with
                | none =>
                  rw [e] at m2
                  have m2' : 60 < m := m2
                  show 60 < 1 + (m + n)
                  omega
                | some x =>
                  cases e2 : fN k b with
                  | none =>
                    rw [e2] at n2
                    have n2' : 60 < n := n2
                    show 60 < 1 + (m + n)
                    omega
                  | some y =>
                    rw [e] at m2
                    rw [e2] at n2
                    show 1 + (m + n) = x + y + 1 ∨ (60 < 1 + (m + n) ∧ 60 < x + y + 1)
                    rcases m2 with m2 | m2 <;> rcases n2 with n2 | n2 <;> omega
              | a :: b :: c :: r, go, _, _ =>
                obtain ⟨n, q1, rfl⟩ := go .non 3 hv (by simp only [List.length_cons]; omega)
                exact ⟨61, q1, r61⟩
            · have hv : valD ["not", "and", "or"] [.int 2, .int 3, .int 3] z = none := by
                rw [valD_many, if_neg (fun q => z4 q.symm), if_neg (fun q => z5 (.inl q.symm)), if_neg (fun q => z5 (.inr q.symm))]
              have a1 : gDIn true (.str z) (.map ["not", "and", "or"] [.int 2, .int 3, .int 3]) = some (.bl true) := by
                show some (D.bl (!(valD ["not", "and", "or"] [.int 2, .int 3, .int 3] z).isSome)) = _
                rw [hv]
                rfl
              exact ⟨61, by simp only [sSeq, sIf, sSet, sRet, sNext, sExpr, sFor, sPar2, sRaise0, sBreak, sCont, sRetN, eOp2, eOp1, eOpN, eVar, eC, eIf, eAnd, eOr, eNot, DL.tB, tNot, tAnd, tOr, aCons, aNil, eCall, eSl, oNone, oSome, eChain, Rs.bind_ok, Rs.bind_err, rs1_some, List.getElem?_cons_zero, List.getElem?_cons_succ, List.set_cons_zero, List.set_cons_succ, Bool.not_true, Bool.not_false, Bool.false_eq_true, if_true, if_false, gIx_t0, k1, k2, k3, a1, g61]; rfl, by rw [fN_not z1 z2 z3 z4 (fun q => z5 (.inl q)) (fun q => z5 (.inr q))]; exact r61⟩
end
theorem filter_zero {F P : List D → Om → Rs D} : ∀ d ω, Gd d → ∃ n : Nat, runB 4 (g_filter_nodes F P) [d, .int ((0 : Nat) : Int)] ω = .ok (.int (n : Nat)) ω ∧ RP (fN 0 d) n := fun d ω h => by
  refine ⟨61, runB_eq (ds := [d, .int ((0 : Nat) : Int)]) ?_, by show 60 < 61; decide⟩
  have k1 : gEqX (.int ((0 : Nat) : Int)) (.int 0) = some (.bl true) := gEqX_nat 0 0
  show g_filter_nodes F P [.val d, .val (.int ((0 : Nat) : Int)), .emp, .emp] ω = _
  refine sSeq_rt ((sIf_t (ω1 := ω) ?_).trans (sRet_run ?_))
  · simp only [sSeq, sIf, sSet, sRet, sNext, sExpr, sFor, sPar2, sRaise0, sBreak, sCont, sRetN, eOp2, eOp1, eOpN, eVar, eC, eIf, eAnd, eOr, eNot, DL.tB, tNot, tAnd, tOr, aCons, aNil, eCall, eSl, oNone, oSome, eChain, Rs.bind_ok, Rs.bind_err, rs1_some, List.getElem?_cons_zero, List.getElem?_cons_succ, List.set_cons_zero, List.set_cons_succ, Bool.not_true, Bool.not_false, Bool.false_eq_true, if_true, if_false, k1]
  · simp only [sSeq, sIf, sSet, sRet, sNext, sExpr, sFor, sPar2, sRaise0, sBreak, sCont, sRetN, eOp2, eOp1, eOpN, eVar, eC, eIf, eAnd, eOr, eNot, DL.tB, tNot, tAnd, tOr, aCons, aNil, eCall, eSl, oNone, oSome, eChain, Rs.bind_ok, Rs.bind_err, rs1_some, List.getElem?_cons_zero, List.getElem?_cons_succ, List.set_cons_zero, List.set_cons_succ, Bool.not_true, Bool.not_false, Bool.false_eq_true, if_true, if_false, g61]
    rfl
theorem filter_nodes_all : ∀ (k n : Nat), k < n → Fok (f_filter_nodes n) k
  | k, 0, h => absurd h (Nat.not_lt_zero _)
  | 0, n + 1, _ => filter_zero
  | k + 1, n + 1, h => fun d ω hd => filter_nodes_run (filter_nodes_all k n (by omega)) (fun d ω hd => path_nodes_run (filter_nodes_all k n (by omega)) hd) hd
/-! ### is it a filter -/
def le60 : Option Nat → Bool
  | some m => decide (m ≤ 60)
  | none => false
def isF (d : D) : Bool := le60 (fN 12 d)
theorem R_dec {o : Option Nat} {n : Nat} (h : RP o n) : decide (n ≤ 60) = le60 o := by
  cases o with
  | none => exact decide_eq_false (by have : 60 < n := h; omega)
  | some m =>
    show decide (n ≤ 60) = decide (m ≤ 60)
    rcases h with h | h
    · rw [h]
    · rw [decide_eq_false (by omega), decide_eq_false (by omega)]
theorem is_filter_run {d : D} {ω : Om} (h : Gd d) : f_is_filter [d] ω = .ok (.bl (isF d)) ω := by
  obtain ⟨n, n1, n2⟩ := filter_nodes_all 12 14 (by decide) d ω h
  have n1' : f_filter_nodes 14 [d, .int 12] ω = .ok (.int (n : Nat)) ω := n1
  have k1 : gLeA (.int (n : Nat)) (.int 60) = some (.bl (decide (n ≤ 60))) := gLeA_nat n 60
  rw [R_dec n2] at k1
  refine runB_eq (ds := [d]) ?_
  show g_is_filter [.val d] ω = _
  simp only [g_is_filter, sSeq, sIf, sSet, sRet, sNext, sExpr, sFor, sPar2, sRaise0, sBreak, sCont, sRetN, eOp2, eOp1, eOpN, eVar, eC, eIf, eAnd, eOr, eNot, DL.tB, tNot, tAnd, tOr, aCons, aNil, eCall, eSl, oNone, oSome, eChain, Rs.bind_ok, Rs.bind_err, rs1_some, List.getElem?_cons_zero, List.getElem?_cons_succ, List.set_cons_zero, List.set_cons_succ, Bool.not_true, Bool.not_false, Bool.false_eq_true, if_true, if_false, n1', k1]
  rfl
end K24

namespace K24
open PySem DL
/-! ### the law's own count -/
def RL (o : Option Nat) (n : Nat) : Prop := match o with
  | some m => n = m
  | none => 1000 ≤ n
def Lok (F : List D → Om → Rs D) (k : Nat) : Prop := ∀ d ω, Gd d → ∃ n : Nat, F [d, .int (k : Nat)] ω = .ok (.int (n : Nat)) ω ∧ RL (fN k d) n
theorem ax_run2 (a : Str) : gInV false (.str a) (.lst [.str "self", .str "child", .str "below"]) = some (.bl (axB a)) := by
  have e := gInV_ls false a axL
  rw [Bool.false_xor] at e
  exact e
theorem ax_lst : gLst [.str "self", .str "child", .str "below"] = some (.lst [.str "self", .str "child", .str "below"]) := gLst_ok (by show 3 ≤ sizeLine; decide)
abbrev bSteps (F : List D → Om → Rs D) : EvS := sSeq (sIf (tOr (tNot (DL.tB (eOpN (gIsc kb) (aCons (eVar 3) (aCons (eC (.ty "tuple")) aNil))))) (tOr (DL.tB (eOp2 gNeX (eOpN gLen (aCons (eVar 3) aNil)) (eC (.int 2)))) (tNot (DL.tB (eOpN (gIsc kb) (aCons (eOp2 gIx (eVar 3) (eC (.int 0))) (aCons (eC (.ty "str")) aNil))))))) (sRet (eC (.int 1000))) sNext) (sSet 2 (eIf (DL.tB (eOp2 (gInV false) (eOp2 gIx (eVar 3) (eC (.int 0))) (eOpN gLst (aCons (eC (.str "self")) (aCons (eC (.str "child")) (aCons (eC (.str "below")) aNil)))))) (eOp2 gAdd (eOp2 gAdd (eVar 2) (eC (.int 1))) (eCall F (aCons (eOp2 gIx (eVar 3) (eC (.int 1))) (aCons (eVar 1) aNil)))) (eC (.int 1000))))
theorem bSteps_run {F : List D → Om → Rs D} {k : Nat} (hF : Lok F k) {v : Sl} {ω : Om} {s : D} {acc : Nat} (h : Gd s) :
    (bSteps F [v, .val (.int (k : Nat)), .val (.int (acc : Nat)), .val s] ω = .ok (.rt (.int 1000)) ω ∧ stepF s = none) ∨
    ∃ n : Nat, bSteps F [v, .val (.int (k : Nat)), .val (.int (acc : Nat)), .val s] ω = .ok (.nx [v, .val (.int (k : Nat)), .val (.int (n : Nat)), .val s]) ω ∧ ((∃ m, (stepF s).bind (fN k) = some m ∧ n = acc + 1 + m) ∨ ((stepF s).bind (fN k) = none ∧ 1000 ≤ n)) := by
  have k1 := isc_tup (good_ok h)
  cases ht : isTup s with
  | false =>
    rw [ht] at k1
    have e : stepF s = none := by cases s <;> first | rfl | cases ht
    exact .inl ⟨by simp only [bSteps, sSeq, sIf, sSet, sRet, sNext, sExpr, sFor, sPar2, sRaise0, sBreak, sCont, sRetN, eOp2, eOp1, eOpN, eVar, eC, eIf, eAnd, eOr, eNot, DL.tB, tNot, tAnd, tOr, aCons, aNil, eCall, eSl, oNone, oSome, eChain, Rs.bind_ok, Rs.bind_err, rs1_some, List.getElem?_cons_zero, List.getElem?_cons_succ, List.set_cons_zero, List.set_cons_succ, Bool.not_true, Bool.not_false, Bool.false_eq_true, if_true, if_false, k1], e⟩
  | true =>
    rw [ht] at k1
    cases s <;> first | (cases ht; done) | skip
    rename_i ss
    have hx := (good_tup.mp h).2
    have k2 : gNeX (.int (ss.length : Nat)) (.int 2) = some (.bl (!decide (ss.length = 2))) := gNeX_nat ss.length 2
    match ss, hx, k1, k2 with
    | [], _, k1, k2 => exact .inl ⟨by simp only [bSteps, sSeq, sIf, sSet, sRet, sNext, sExpr, sFor, sPar2, sRaise0, sBreak, sCont, sRetN, eOp2, eOp1, eOpN, eVar, eC, eIf, eAnd, eOr, eNot, DL.tB, tNot, tAnd, tOr, aCons, aNil, eCall, eSl, oNone, oSome, eChain, Rs.bind_ok, Rs.bind_err, rs1_some, List.getElem?_cons_zero, List.getElem?_cons_succ, List.set_cons_zero, List.set_cons_succ, Bool.not_true, Bool.not_false, Bool.false_eq_true, if_true, if_false, k1, gLen_t, k2]; rfl, rfl⟩
    | [a], _, k1, k2 => exact .inl ⟨by simp only [bSteps, sSeq, sIf, sSet, sRet, sNext, sExpr, sFor, sPar2, sRaise0, sBreak, sCont, sRetN, eOp2, eOp1, eOpN, eVar, eC, eIf, eAnd, eOr, eNot, DL.tB, tNot, tAnd, tOr, aCons, aNil, eCall, eSl, oNone, oSome, eChain, Rs.bind_ok, Rs.bind_err, rs1_some, List.getElem?_cons_zero, List.getElem?_cons_succ, List.set_cons_zero, List.set_cons_succ, Bool.not_true, Bool.not_false, Bool.false_eq_true, if_true, if_false, k1, gLen_t, k2]; rfl, by cases a <;> rfl⟩
    | a :: b :: c :: r, _, k1, k2 =>
      have e : decide ((a :: b :: c :: r).length = 2) = false := decide_eq_false (by simp only [List.length_cons]; omega)
      rw [e] at k2
      exact .inl ⟨by simp only [bSteps, sSeq, sIf, sSet, sRet, sNext, sExpr, sFor, sPar2, sRaise0, sBreak, sCont, sRetN, eOp2, eOp1, eOpN, eVar, eC, eIf, eAnd, eOr, eNot, DL.tB, tNot, tAnd, tOr, aCons, aNil, eCall, eSl, oNone, oSome, eChain, Rs.bind_ok, Rs.bind_err, rs1_some, List.getElem?_cons_zero, List.getElem?_cons_succ, List.set_cons_zero, List.set_cons_succ, Bool.not_true, Bool.not_false, Bool.false_eq_true, if_true, if_false, k1, gLen_t, k2], by cases a <;> rfl⟩
    | [x, f], hx, k1, k2 =>
      have k2' : gNeX (.int (([x, f].length : Nat) : Int)) (.int 2) = some (.bl false) := k2
      have k3 := isc_str (good_ok (hx x (by simp)))
      cases hs : isStr x with
      | false =>
        rw [hs] at k3
        have e : stepF (.tup [x, f]) = none := by cases x <;> first | rfl | cases hs
        exact .inl ⟨by simp only [bSteps, sSeq, sIf, sSet, sRet, sNext, sExpr, sFor, sPar2, sRaise0, sBreak, sCont, sRetN, eOp2, eOp1, eOpN, eVar, eC, eIf, eAnd, eOr, eNot, DL.tB, tNot, tAnd, tOr, aCons, aNil, eCall, eSl, oNone, oSome, eChain, Rs.bind_ok, Rs.bind_err, rs1_some, List.getElem?_cons_zero, List.getElem?_cons_succ, List.set_cons_zero, List.set_cons_succ, Bool.not_true, Bool.not_false, Bool.false_eq_true, if_true, if_false, k1, gLen_t, k2', gIx_t0, k3], e⟩
      | true =>
        rw [hs] at k3
        cases x <;> first | (cases hs; done) | skip
        rename_i a
        have k4 := ax_run2 a
        have e : stepF (.tup [.str a, f]) = if axB a = true then some f else none := rfl
        rw [e]
        cases ha : axB a with
        | false =>
          rw [ha] at k4
          exact .inr ⟨1000, by simp only [bSteps, sSeq, sIf, sSet, sRet, sNext, sExpr, sFor, sPar2, sRaise0, sBreak, sCont, sRetN, eOp2, eOp1, eOpN, eVar, eC, eIf, eAnd, eOr, eNot, DL.tB, tNot, tAnd, tOr, aCons, aNil, eCall, eSl, oNone, oSome, eChain, Rs.bind_ok, Rs.bind_err, rs1_some, List.getElem?_cons_zero, List.getElem?_cons_succ, List.set_cons_zero, List.set_cons_succ, Bool.not_true, Bool.not_false, Bool.false_eq_true, if_true, if_false, k1, gLen_t, k2', gIx_t0, k3, ax_lst, k4]; rfl, .inr ⟨rfl, Nat.le_refl _⟩⟩
        | true =>
          rw [ha] at k4
          obtain ⟨n, n1, n2⟩ := hF f ω (hx f (by simp))
          have k5 : gAdd (.int (acc : Nat)) (.int 1) = some (.int ((acc + 1 : Nat) : Int)) := gAdd_nat acc 1
          have k6 := gAdd_nat (acc + 1) n
          refine .inr ⟨acc + 1 + n, by simp only [bSteps, sSeq, sIf, sSet, sRet, sNext, sExpr, sFor, sPar2, sRaise0, sBreak, sCont, sRetN, eOp2, eOp1, eOpN, eVar, eC, eIf, eAnd, eOr, eNot, DL.tB, tNot, tAnd, tOr, aCons, aNil, eCall, eSl, oNone, oSome, eChain, Rs.bind_ok, Rs.bind_err, rs1_some, List.getElem?_cons_zero, List.getElem?_cons_succ, List.set_cons_zero, List.set_cons_succ, Bool.not_true, Bool.not_false, Bool.false_eq_true, if_true, if_false, k1, gLen_t, k2', gIx_t0, gIx_t1, k3, ax_lst, k4, k5, n1, k6], ?_⟩
          rw [if_pos rfl]
          show (∃ m, fN k f = some m ∧ _) ∨ (fN k f = none ∧ _)
          cases e1 : fN k f with
          | none =>
            rw [e1] at n2
            have : 1000 ≤ n := n2
            exact .inr ⟨rfl, by omega⟩
          | some m =>
            rw [e1] at n2
            have : n = m := n2
            exact .inl ⟨m, rfl, by omega⟩
theorem lSteps_run {F : List D → Om → Rs D} {k : Nat} (hF : Lok F k) {v : Sl} {ω : Om} : ∀ (ss : List D) (acc : Nat) (s3 : Sl), (∀ s ∈ ss, Gd s) →
    (loopF (gdName 3) (bSteps F) ss [v, .val (.int (k : Nat)), .val (.int (acc : Nat)), s3] ω = .ok (.rt (.int 1000)) ω ∧ sN (fN k) ss = none) ∨
    (∃ n s3', loopF (gdName 3) (bSteps F) ss [v, .val (.int (k : Nat)), .val (.int (acc : Nat)), s3] ω = .ok (.nx [v, .val (.int (k : Nat)), .val (.int ((n : Nat) : Int)), s3']) ω ∧ ((∃ m, sN (fN k) ss = some m ∧ n = acc + m) ∨ (sN (fN k) ss = none ∧ 1000 ≤ n)))
  | [], acc, s3, _ => .inr ⟨acc, s3, rfl, .inl ⟨0, rfl, rfl⟩⟩
  | s :: r, acc, s3, h => by
    have esn : sN (fN k) (s :: r) = match (stepF s).bind (fN k), sN (fN k) r with
      | some a, some b => some (a + b + 1)
      | _, _ => none := rfl
    rcases bSteps_run hF (v := v) (ω := ω) (acc := acc) (h s (by simp)) with ⟨b1, b2⟩ | ⟨n, b1, b2⟩
    · exact .inl ⟨loopF_rt (δ1 := [v, .val (.int (k : Nat)), .val (.int (acc : Nat)), .val s]) rfl b1, by rw [esn, b2]; rfl⟩
    · have st := loopF_step (g := gdName 3) (body := bSteps F) (d := s) (ds := r) (δ := [v, .val (.int (k : Nat)), .val (.int (acc : Nat)), s3]) (ω := ω) rfl b1
      rw [st, esn]
      rcases lSteps_run hF (v := v) (ω := ω) r n (.val s) (fun x hx => h x (by simp [hx])) with ⟨q1, q2⟩ | ⟨n', s3', q1, q2⟩
      · refine .inl ⟨q1, ?_⟩
        rw [q2]
        cases (stepF s).bind (fN k) <;> rfl
      · refine .inr ⟨n', s3', q1, ?_⟩
        rcases b2 with ⟨m, b3, b4⟩ | ⟨b3, b4⟩
        · rw [b3]
          rcases q2 with ⟨m', q3, q4⟩ | ⟨q3, q4⟩
          · rw [q3]
            exact .inl ⟨m + m' + 1, rfl, by omega⟩
          · rw [q3]
            exact .inr ⟨rfl, q4⟩
        · rw [b3]
          refine .inr ⟨by cases sN (fN k) r <;> rfl, ?_⟩
          rcases q2 with ⟨m', q3, q4⟩ | ⟨q3, q4⟩ <;> omega
theorem steps_run {F : List D → Om → Rs D} {k : Nat} (hF : Lok F k) {d : D} {ω : Om} (h : Gd d) : ∃ n : Nat, runB 4 (g_w_k24_steps F) [d, .int (k : Nat)] ω = .ok (.int (n : Nat)) ω ∧ RL (pathN (fN k) d) n := by
  have k1 := isc_tup (good_ok h)
  cases ht : isTup d with
  | false =>
    rw [ht] at k1
    refine ⟨1000, runB_eq (ds := [d, .int (k : Nat)]) ?_, ?_⟩
    · show g_w_k24_steps F [.val d, .val (.int (k : Nat)), .emp, .emp] ω = _
      refine sSeq_rt ((sIf_t (ω1 := ω) ?_).trans (sRet_run rfl))
      simp only [sSeq, sIf, sSet, sRet, sNext, sExpr, sFor, sPar2, sRaise0, sBreak, sCont, sRetN, eOp2, eOp1, eOpN, eVar, eC, eIf, eAnd, eOr, eNot, DL.tB, tNot, tAnd, tOr, aCons, aNil, eCall, eSl, oNone, oSome, eChain, Rs.bind_ok, Rs.bind_err, rs1_some, List.getElem?_cons_zero, List.getElem?_cons_succ, List.set_cons_zero, List.set_cons_succ, Bool.not_true, Bool.not_false, Bool.false_eq_true, if_true, if_false, k1]
    · have e : pathN (fN k) d = none := by cases d <;> first | rfl | cases ht
      rw [e]
      exact Nat.le_refl _
  | true =>
    rw [ht] at k1
    cases d <;> first | (cases ht; done) | skip
    rename_i ss
    obtain ⟨h1, h2⟩ := good_tup.mp h
    have k2 : gGt (.int (ss.length : Nat)) (.int 8) = some (.bl (decide (8 < ss.length))) := gGt_nat _ 8
    have ep : pathN (fN k) (.tup ss) = if ss.length ≤ 8 then sN (fN k) ss else none := rfl
    by_cases hl : 8 < ss.length
    · rw [decide_eq_true hl] at k2
      refine ⟨1000, runB_eq (ds := [.tup ss, .int (k : Nat)]) ?_, ?_⟩
      · show g_w_k24_steps F [.val (.tup ss), .val (.int (k : Nat)), .emp, .emp] ω = _
        refine sSeq_rt ((sIf_t (ω1 := ω) ?_).trans (sRet_run rfl))
        simp only [sSeq, sIf, sSet, sRet, sNext, sExpr, sFor, sPar2, sRaise0, sBreak, sCont, sRetN, eOp2, eOp1, eOpN, eVar, eC, eIf, eAnd, eOr, eNot, DL.tB, tNot, tAnd, tOr, aCons, aNil, eCall, eSl, oNone, oSome, eChain, Rs.bind_ok, Rs.bind_err, rs1_some, List.getElem?_cons_zero, List.getElem?_cons_succ, List.set_cons_zero, List.set_cons_succ, Bool.not_true, Bool.not_false, Bool.false_eq_true, if_true, if_false, k1, gLen_t, k2]
      · rw [ep, if_neg (by omega)]
        exact Nat.le_refl _
    · rw [decide_eq_false hl] at k2
      rw [ep, if_pos (by omega)]
      have c1 : (sIf (tOr (tNot (DL.tB (eOpN (gIsc kb) (aCons (eVar 0) (aCons (eC (.ty "tuple")) aNil))))) (DL.tB (eOp2 gGt (eOpN gLen (aCons (eVar 0) aNil)) (eC (.int 8))))) (sRet (eC (.int 1000))) sNext) [.val (.tup ss), .val (.int (k : Nat)), .emp, .emp] ω = .ok (.nx [.val (.tup ss), .val (.int (k : Nat)), .emp, .emp]) ω := by
        simp only [sSeq, sIf, sSet, sRet, sNext, sExpr, sFor, sPar2, sRaise0, sBreak, sCont, sRetN, eOp2, eOp1, eOpN, eVar, eC, eIf, eAnd, eOr, eNot, DL.tB, tNot, tAnd, tOr, aCons, aNil, eCall, eSl, oNone, oSome, eChain, Rs.bind_ok, Rs.bind_err, rs1_some, List.getElem?_cons_zero, List.getElem?_cons_succ, List.set_cons_zero, List.set_cons_succ, Bool.not_true, Bool.not_false, Bool.false_eq_true, if_true, if_false, k1, gLen_t, k2]
      have c2 : sSet 2 (eC (.int 0)) [.val (.tup ss), .val (.int (k : Nat)), .emp, .emp] ω = .ok (.nx [.val (.tup ss), .val (.int (k : Nat)), .val (.int 0), .emp]) ω := rfl
      have ei : iAny (eVar 0) [.val (.tup ss), .val (.int (k : Nat)), .val (.int 0), .emp] ω = .ok ss ω := iAny_t rfl
      have eg : g_w_k24_steps F [.val (.tup ss), .val (.int (k : Nat)), .emp, .emp] ω = sSeq (sFor (iAny (eVar 0)) (gdName 3) (bSteps F)) (sRet (eVar 2)) [.val (.tup ss), .val (.int (k : Nat)), .val (.int 0), .emp] ω := (sSeq_run c1).trans (sSeq_run c2)
      rcases lSteps_run hF (v := .val (.tup ss)) (ω := ω) ss 0 .emp h2 with ⟨q1, q2⟩ | ⟨n, s3', q1, q2⟩
      · refine ⟨1000, runB_eq (ds := [.tup ss, .int (k : Nat)]) (eg.trans (sSeq_rt ((sFor_run ei).trans q1))), ?_⟩
        rw [q2]
        exact Nat.le_refl _
      · refine ⟨n, runB_eq (ds := [.tup ss, .int (k : Nat)]) (eg.trans ((sSeq_run ((sFor_run ei).trans q1)).trans rfl)), ?_⟩
        rcases q2 with ⟨m, q3, q4⟩ | ⟨q3, q4⟩
        · rw [q3]
          show n = m
          omega
        · rw [q3]
          exact q4
section
variable {F P : List D → Om → Rs D} {k : Nat} {ω : Om}
theorem whead_run {d : D} (h : Gd d) : (sIf (tOr (DL.tB (eOp2 gEqX (eVar 1) (eC (.int 0)))) (tOr (tNot (DL.tB (eOpN (gIsc kb) (aCons (eVar 0) (aCons (eC (.ty "tuple")) aNil))))) (tOr (DL.tB (eOp2 gEqX (eVar 0) (eOpN gTup aNil))) (tNot (DL.tB (eOpN (gIsc kb) (aCons (eOp2 gIx (eVar 0) (eC (.int 0))) (aCons (eC (.ty "str")) aNil)))))))) (sRet (eC (.int 1000))) sNext) [.val d, .val (.int ((k + 1 : Nat) : Int)), .emp, .emp] ω = if headB d = true then .ok (.nx [.val d, .val (.int ((k + 1 : Nat) : Int)), .emp, .emp]) ω else .ok (.rt (.int 1000)) ω := by
  have k1 : gEqX (.int ((k + 1 : Nat) : Int)) (.int 0) = some (.bl false) := by
    have := gEqX_nat (k + 1) 0
    rw [decide_eq_false (by omega)] at this
    exact this
  have k2 := isc_tup (good_ok h)
  cases hd : isTup d with
  | false =>
    rw [hd] at k2
    have e : headB d = false := by cases d <;> first | rfl | cases hd
    simp only [sSeq, sIf, sSet, sRet, sNext, sExpr, sFor, sPar2, sRaise0, sBreak, sCont, sRetN, eOp2, eOp1, eOpN, eVar, eC, eIf, eAnd, eOr, eNot, DL.tB, tNot, tAnd, tOr, aCons, aNil, eCall, eSl, oNone, oSome, eChain, Rs.bind_ok, Rs.bind_err, rs1_some, List.getElem?_cons_zero, List.getElem?_cons_succ, List.set_cons_zero, List.set_cons_succ, Bool.not_true, Bool.not_false, Bool.false_eq_true, if_true, if_false, k1, k2, e]
  | true =>
    rw [hd] at k2
    cases d <;> first | (cases hd; done) | skip
    rename_i ds
    have k3 := gEqX_t0 ds
    cases ds with
    | nil =>
      have e : headB (.tup []) = false := rfl
      simp only [sSeq, sIf, sSet, sRet, sNext, sExpr, sFor, sPar2, sRaise0, sBreak, sCont, sRetN, eOp2, eOp1, eOpN, eVar, eC, eIf, eAnd, eOr, eNot, DL.tB, tNot, tAnd, tOr, aCons, aNil, eCall, eSl, oNone, oSome, eChain, Rs.bind_ok, Rs.bind_err, rs1_some, List.getElem?_cons_zero, List.getElem?_cons_succ, List.set_cons_zero, List.set_cons_succ, Bool.not_true, Bool.not_false, Bool.false_eq_true, if_true, if_false, k1, k2, gTup_nil, k3, List.isEmpty_nil, e]
    | cons x r =>
      have k4 := isc_str (good_ok ((good_tup.mp h).2 x (by simp)))
      have e : headB (.tup (x :: r)) = isStr x := by cases x <;> rfl
      cases hs : isStr x with
      | false =>
        rw [hs] at k4 e
        simp only [sSeq, sIf, sSet, sRet, sNext, sExpr, sFor, sPar2, sRaise0, sBreak, sCont, sRetN, eOp2, eOp1, eOpN, eVar, eC, eIf, eAnd, eOr, eNot, DL.tB, tNot, tAnd, tOr, aCons, aNil, eCall, eSl, oNone, oSome, eChain, Rs.bind_ok, Rs.bind_err, rs1_some, List.getElem?_cons_zero, List.getElem?_cons_succ, List.set_cons_zero, List.set_cons_succ, Bool.not_true, Bool.not_false, Bool.false_eq_true, if_true, if_false, k1, k2, gTup_nil, k3, List.isEmpty_cons, gIx_t0, k4, e]
      | true =>
        rw [hs] at k4 e
        simp only [sSeq, sIf, sSet, sRet, sNext, sExpr, sFor, sPar2, sRaise0, sBreak, sCont, sRetN, eOp2, eOp1, eOpN, eVar, eC, eIf, eAnd, eOr, eNot, DL.tB, tNot, tAnd, tOr, aCons, aNil, eCall, eSl, oNone, oSome, eChain, Rs.bind_ok, Rs.bind_err, rs1_some, List.getElem?_cons_zero, List.getElem?_cons_succ, List.set_cons_zero, List.set_cons_succ, Bool.not_true, Bool.not_false, Bool.false_eq_true, if_true, if_false, k1, k2, gTup_nil, k3, List.isEmpty_cons, gIx_t0, k4, e]
theorem tr_tup : gTup [.str "true"] = some (.tup [.str "true"]) := gTup_ok (by show 1 ≤ sizeLine; decide)
theorem nodes_run (hF : Lok F k) (hP : ∀ d ω, Gd d → ∃ n : Nat, P [d, .int (k : Nat)] ω = .ok (.int (n : Nat)) ω ∧ RL (pathN (fN k) d) n) {d : D} (h : Gd d) : ∃ n : Nat, runB 4 (g_w_k24_nodes F P) [d, .int ((k + 1 : Nat) : Int)] ω = .ok (.int (n : Nat)) ω ∧ RL (fN (k + 1) d) n := by
  have h0 := whead_run (k := k) (ω := ω) h
  have r61 : RL none 1000 := Nat.le_refl _
  cases hh : headB d with
  | false =>
    rw [hh, if_neg (by decide)] at h0
    exact ⟨1000, runB_eq (ds := [d, .int ((k + 1 : Nat) : Int)]) (sSeq_rt h0), by rw [fN_no hh]; exact r61⟩
  | true =>
    rw [hh, if_pos rfl] at h0
    obtain ⟨z, r, rfl⟩ : ∃ z r, d = .tup (.str z :: r) := by
      unfold headB at hh
      split at hh
      · exact ⟨_, _, rfl⟩
      · cases hh
    obtain ⟨l1, l2⟩ := good_tup.mp h
    have hr : ∀ x ∈ r, Gd x := fun x hx => l2 x (by simp [hx])
    have k1 := gEqX_t1 z "true" r
    have k2 := gEqX_ss z "label"
    have k3 := gEqX_ss z "some"
    have hk : gSub (.int ((k + 1 : Nat) : Int)) (.int 1) = some (.int (k : Nat)) := gSub_nat (k + 1) 1 (by omega)
    suffices q : ∃ n : Nat, g_w_k24_nodes F P [.val (.tup (.str z :: r)), .val (.int ((k + 1 : Nat) : Int)), .emp, .emp] ω = .ok (.rt (.int (n : Nat))) ω ∧ RL (fN (k + 1) (.tup (.str z :: r))) n by
      obtain ⟨n, q1, q2⟩ := q
      exact ⟨n, runB_eq (ds := [.tup (.str z :: r), .int ((k + 1 : Nat) : Int)]) q1, q2⟩
    unfold g_w_k24_nodes
    rw [sSeq_run h0]
    by_cases z0 : z = "true" ∧ r = []
    · obtain ⟨rfl, rfl⟩ := z0
      rw [List.isEmpty_nil, decide_eq_true rfl] at k1
      exact ⟨1, by simp only [sSeq, sIf, sSet, sRet, sNext, sExpr, sFor, sPar2, sRaise0, sBreak, sCont, sRetN, eOp2, eOp1, eOpN, eVar, eC, eIf, eAnd, eOr, eNot, DL.tB, tNot, tAnd, tOr, aCons, aNil, eCall, eSl, oNone, oSome, eChain, Rs.bind_ok, Rs.bind_err, rs1_some, List.getElem?_cons_zero, List.getElem?_cons_succ, List.set_cons_zero, List.set_cons_succ, Bool.not_true, Bool.not_false, Bool.false_eq_true, if_true, if_false, tr_tup, k1, Bool.true_and]; rfl, rfl⟩
    · have k1' : gEqX (.tup (.str z :: r)) (.tup [.str "true"]) = some (.bl false) := by
        rw [k1]
        congr 2
        by_cases q : z = "true"
        · cases r with
          | nil => exact absurd ⟨q, rfl⟩ z0
          | cons a r => rw [List.isEmpty_cons, Bool.and_false]
        · rw [decide_eq_false q, Bool.false_and]
      have k5 : gEqX (.int ((D.str z :: r).length : Nat)) (.int 2) = some (.bl (decide ((D.str z :: r).length = 2))) := gEqX_nat _ 2
      by_cases z2 : z = "label"
      · rw [decide_eq_true z2] at k2
        subst z2
        match r, k5, hr, k1' with
        | [], k5, _, k1' => exact ⟨1000, by simp only [sSeq, sIf, sSet, sRet, sNext, sExpr, sFor, sPar2, sRaise0, sBreak, sCont, sRetN, eOp2, eOp1, eOpN, eVar, eC, eIf, eAnd, eOr, eNot, DL.tB, tNot, tAnd, tOr, aCons, aNil, eCall, eSl, oNone, oSome, eChain, Rs.bind_ok, Rs.bind_err, rs1_some, List.getElem?_cons_zero, List.getElem?_cons_succ, List.set_cons_zero, List.set_cons_succ, Bool.not_true, Bool.not_false, Bool.false_eq_true, if_true, if_false, tr_tup, gIx_t0, k1', k2, gLen_t, k5]; rfl, by rw [fN_1, if_neg (by decide)]; exact r61⟩
        | [a], k5, hr, k1' =>
          have k5' : gEqX (.int (([D.str "label", a].length : Nat) : Int)) (.int 2) = some (.bl true) := k5
          have kn := name_run2 (ω := ω) (hr a (by simp))
          rw [fN_2, if_pos rfl]
          cases hn : nameD a with
          | true =>
            rw [hn] at kn
            exact ⟨1, by simp only [sSeq, sIf, sSet, sRet, sNext, sExpr, sFor, sPar2, sRaise0, sBreak, sCont, sRetN, eOp2, eOp1, eOpN, eVar, eC, eIf, eAnd, eOr, eNot, DL.tB, tNot, tAnd, tOr, aCons, aNil, eCall, eSl, oNone, oSome, eChain, Rs.bind_ok, Rs.bind_err, rs1_some, List.getElem?_cons_zero, List.getElem?_cons_succ, List.set_cons_zero, List.set_cons_succ, Bool.not_true, Bool.not_false, Bool.false_eq_true, if_true, if_false, tr_tup, gIx_t0, gIx_t1, k1', k2, gLen_t, k5', kn]; rfl, rfl⟩
          | false =>
            rw [hn] at kn
            exact ⟨1000, by simp only [sSeq, sIf, sSet, sRet, sNext, sExpr, sFor, sPar2, sRaise0, sBreak, sCont, sRetN, eOp2, eOp1, eOpN, eVar, eC, eIf, eAnd, eOr, eNot, DL.tB, tNot, tAnd, tOr, aCons, aNil, eCall, eSl, oNone, oSome, eChain, Rs.bind_ok, Rs.bind_err, rs1_some, List.getElem?_cons_zero, List.getElem?_cons_succ, List.set_cons_zero, List.set_cons_succ, Bool.not_true, Bool.not_false, Bool.false_eq_true, if_true, if_false, tr_tup, gIx_t0, gIx_t1, k1', k2, gLen_t, k5', kn]; rfl, r61⟩
        | [a, b], k5, _, k1' => exact ⟨1000, by simp only [sSeq, sIf, sSet, sRet, sNext, sExpr, sFor, sPar2, sRaise0, sBreak, sCont, sRetN, eOp2, eOp1, eOpN, eVar, eC, eIf, eAnd, eOr, eNot, DL.tB, tNot, tAnd, tOr, aCons, aNil, eCall, eSl, oNone, oSome, eChain, Rs.bind_ok, Rs.bind_err, rs1_some, List.getElem?_cons_zero, List.getElem?_cons_succ, List.set_cons_zero, List.set_cons_succ, Bool.not_true, Bool.not_false, Bool.false_eq_true, if_true, if_false, tr_tup, gIx_t0, k1', k2, gLen_t, k5]; rfl, by rw [fN_3, if_neg (by decide)]; exact r61⟩
        | a :: b :: c :: r, k5, _, k1' =>
          have e : decide ((D.str "label" :: a :: b :: c :: r).length = 2) = false := decide_eq_false (by simp only [List.length_cons]; omega)
          rw [e] at k5
          exact ⟨1000, by simp only [sSeq, sIf, sSet, sRet, sNext, sExpr, sFor, sPar2, sRaise0, sBreak, sCont, sRetN, eOp2, eOp1, eOpN, eVar, eC, eIf, eAnd, eOr, eNot, DL.tB, tNot, tAnd, tOr, aCons, aNil, eCall, eSl, oNone, oSome, eChain, Rs.bind_ok, Rs.bind_err, rs1_some, List.getElem?_cons_zero, List.getElem?_cons_succ, List.set_cons_zero, List.set_cons_succ, Bool.not_true, Bool.not_false, Bool.false_eq_true, if_true, if_false, tr_tup, gIx_t0, k1', k2, gLen_t, k5]; rfl, r61⟩
      · rw [decide_eq_false z2] at k2
        by_cases z3 : z = "some"
        · rw [decide_eq_true z3] at k3
          subst z3
          match r, k5, hr, k1' with
          | [], k5, _, k1' => exact ⟨1000, by simp only [sSeq, sIf, sSet, sRet, sNext, sExpr, sFor, sPar2, sRaise0, sBreak, sCont, sRetN, eOp2, eOp1, eOpN, eVar, eC, eIf, eAnd, eOr, eNot, DL.tB, tNot, tAnd, tOr, aCons, aNil, eCall, eSl, oNone, oSome, eChain, Rs.bind_ok, Rs.bind_err, rs1_some, List.getElem?_cons_zero, List.getElem?_cons_succ, List.set_cons_zero, List.set_cons_succ, Bool.not_true, Bool.not_false, Bool.false_eq_true, if_true, if_false, tr_tup, gIx_t0, k1', k2, k3, gLen_t, k5]; rfl, by rw [fN_1, if_neg (by decide)]; exact r61⟩
          | [a], k5, hr, k1' =>
            obtain ⟨n, n1, n2⟩ := hP a ω (hr a (by simp))
            have k6 : gAdd (.int 1) (.int (n : Nat)) = some (.int ((1 + n : Nat) : Int)) := gAdd_nat 1 n
            have k5' : gEqX (.int (([D.str "some", a].length : Nat) : Int)) (.int 2) = some (.bl true) := k5
            refine ⟨1 + n, by simp only [sSeq, sIf, sSet, sRet, sNext, sExpr, sFor, sPar2, sRaise0, sBreak, sCont, sRetN, eOp2, eOp1, eOpN, eVar, eC, eIf, eAnd, eOr, eNot, DL.tB, tNot, tAnd, tOr, aCons, aNil, eCall, eSl, oNone, oSome, eChain, Rs.bind_ok, Rs.bind_err, rs1_some, List.getElem?_cons_zero, List.getElem?_cons_succ, List.set_cons_zero, List.set_cons_succ, Bool.not_true, Bool.not_false, Bool.false_eq_true, if_true, if_false, tr_tup, gIx_t0, gIx_t1, k1', k2, k3, gLen_t, k5', hk, n1, k6], ?_⟩
            rw [fN_2, if_neg (by decide), if_pos rfl]
            cases e : pathN (fN k) a with
            | none =>
              rw [e] at n2
              have n2' : 1000 ≤ n := n2
              show 1000 ≤ 1 + n
              omega
            | some m =>
              rw [e] at n2
              have n2' : n = m := n2
              show 1 + n = m + 1
              omega
          | [a, b], k5, _, k1' => exact ⟨1000, by simp only [sSeq, sIf, sSet, sRet, sNext, sExpr, sFor, sPar2, sRaise0, sBreak, sCont, sRetN, eOp2, eOp1, eOpN, eVar, eC, eIf, eAnd, eOr, eNot, DL.tB, tNot, tAnd, tOr, aCons, aNil, eCall, eSl, oNone, oSome, eChain, Rs.bind_ok, Rs.bind_err, rs1_some, List.getElem?_cons_zero, List.getElem?_cons_succ, List.set_cons_zero, List.set_cons_succ, Bool.not_true, Bool.not_false, Bool.false_eq_true, if_true, if_false, tr_tup, gIx_t0, k1', k2, k3, gLen_t, k5]; rfl, by rw [fN_3, if_neg (by decide)]; exact r61⟩
          | a :: b :: c :: r, k5, _, k1' =>
            have e : decide ((D.str "some" :: a :: b :: c :: r).length = 2) = false := decide_eq_false (by simp only [List.length_cons]; omega)
            rw [e] at k5
            exact ⟨1000, by simp only [sSeq, sIf, sSet, sRet, sNext, sExpr, sFor, sPar2, sRaise0, sBreak, sCont, sRetN, eOp2, eOp1, eOpN, eVar, eC, eIf, eAnd, eOr, eNot, DL.tB, tNot, tAnd, tOr, aCons, aNil, eCall, eSl, oNone, oSome, eChain, Rs.bind_ok, Rs.bind_err, rs1_some, List.getElem?_cons_zero, List.getElem?_cons_succ, List.set_cons_zero, List.set_cons_succ, Bool.not_true, Bool.not_false, Bool.false_eq_true, if_true, if_false, tr_tup, gIx_t0, k1', k2, k3, gLen_t, k5]; rfl, r61⟩
        · rw [decide_eq_false z3] at k3
          have hg : ∀ g : Nat, (valD ["not", "and", "or"] [.int 2, .int 3, .int 3] z).getD (.int 0) = .int (g : Nat) → (eGet2 (eVar 2) (eOp2 gIx (eVar 0) (eC (.int 0))) (eC (.int 0))) [.val (.tup (.str z :: r)), .val (.int ((k + 1 : Nat) : Int)), .val (.map ["not", "and", "or"] [.int 2, .int 3, .int 3]), .emp] ω = .ok (.int (g : Nat)) ω := fun g e => by
            simp only [eGet2, sSeq, sIf, sSet, sRet, sNext, sExpr, sFor, sPar2, sRaise0, sBreak, sCont, sRetN, eOp2, eOp1, eOpN, eVar, eC, eIf, eAnd, eOr, eNot, DL.tB, tNot, tAnd, tOr, aCons, aNil, eCall, eSl, oNone, oSome, eChain, Rs.bind_ok, Rs.bind_err, rs1_some, List.getElem?_cons_zero, List.getElem?_cons_succ, List.set_cons_zero, List.set_cons_succ, Bool.not_true, Bool.not_false, Bool.false_eq_true, if_true, if_false, gIx_t0, e]
          have hlen : ∀ g : Nat, gNeX (.int ((D.str z :: r).length : Nat)) (.int (g : Nat)) = some (.bl (!decide ((D.str z :: r).length = g))) := fun g => gNeX_nat _ g
          have go : ∀ g : Nat, (valD ["not", "and", "or"] [.int 2, .int 3, .int 3] z).getD (.int 0) = .int (g : Nat) → (D.str z :: r).length ≠ g → (sSeq (sIf (DL.tB (eOp2 gEqX (eVar 0) (eOpN gTup (aCons (eC (.str "true")) aNil)))) (sRet (eC (.int 1))) sNext) (sSeq (sIf (DL.tB (eOp2 gEqX (eOp2 gIx (eVar 0) (eC (.int 0))) (eC (.str "label")))) (sRet (eIf (tAnd (DL.tB (eOp2 gEqX (eOpN gLen (aCons (eVar 0) aNil)) (eC (.int 2)))) (DL.tB (eCall f_w_k24_is_name (aCons (eOp2 gIx (eVar 0) (eC (.int 1))) aNil)))) (eC (.int 1)) (eC (.int 1000)))) sNext) (sSeq (sIf (DL.tB (eOp2 gEqX (eOp2 gIx (eVar 0) (eC (.int 0))) (eC (.str "some")))) (sRet (eIf (DL.tB (eOp2 gEqX (eOpN gLen (aCons (eVar 0) aNil)) (eC (.int 2)))) (eOp2 gAdd (eC (.int 1)) (eCall P (aCons (eOp2 gIx (eVar 0) (eC (.int 1))) (aCons (eOp2 gSub (eVar 1) (eC (.int 1))) aNil)))) (eC (.int 1000)))) sNext) (sSeq (sSet 2 (eC (.map ["not", "and", "or"] [.int 2, .int 3, .int 3]))) (sSeq (sIf (DL.tB (eOp2 gNeX (eOpN gLen (aCons (eVar 0) aNil)) (eGet2 (eVar 2) (eOp2 gIx (eVar 0) (eC (.int 0))) (eC (.int 0))))) (sRet (eC (.int 1000))) sNext) (sRet (eOp2 gAdd (eC (.int 1)) (eOpN gSum (aCons (eComp (iAny (eSl gSl (eVar 0) (oSome (eC (.int 1))) oNone)) (gdName 3) tTrue (eCall F (aCons (eVar 3) (aCons (eOp2 gSub (eVar 1) (eC (.int 1))) aNil))) [3]) aNil))))))))) [.val (.tup (.str z :: r)), .val (.int ((k + 1 : Nat) : Int)), .emp, .emp] ω = .ok (.rt (.int 1000)) ω := by
            intro g hv hl
            have a2 := hg g hv
            have a3 := hlen g
            rw [decide_eq_false hl] at a3
            simp only [sSeq, sIf, sSet, sRet, sNext, sExpr, sFor, sPar2, sRaise0, sBreak, sCont, sRetN, eOp2, eOp1, eOpN, eVar, eC, eIf, eAnd, eOr, eNot, DL.tB, tNot, tAnd, tOr, aCons, aNil, eCall, eSl, oNone, oSome, eChain, Rs.bind_ok, Rs.bind_err, rs1_some, List.getElem?_cons_zero, List.getElem?_cons_succ, List.set_cons_zero, List.set_cons_succ, Bool.not_true, Bool.not_false, Bool.false_eq_true, if_true, if_false, tr_tup, gIx_t0, k1', k2, k3, a2, a3, gLen_t]
          by_cases z4 : z = "not"
          · subst z4
            have hv : (valD ["not", "and", "or"] [.int 2, .int 3, .int 3] "not").getD (.int 0) = .int ((2 : Nat) : Int) := rfl
            match r, go, hg, hlen, hr, k1' with
            | [], go, _, _, _, _ => exact ⟨1000, go 2 hv (by decide), by rw [fN_1, if_neg (by decide)]; exact r61⟩
            | [a], _, hg, hlen, hr, k1' =>
              have a2 := hg 2 hv
              have a3 : gNeX (.int (([D.str "not", a].length : Nat) : Int)) (.int ((2 : Nat) : Int)) = some (.bl false) := hlen 2
              obtain ⟨m, m1, m2⟩ := hF a ω (hr a (by simp))
              have c := comp_1 (F := F) (h := .str "not") (x := .val (.map ["not", "and", "or"] [.int 2, .int 3, .int 3])) (y := .emp) m1 hk
              have k6 : gAdd (.int 1) (.int (m : Nat)) = some (.int ((1 + m : Nat) : Int)) := gAdd_nat 1 m
              refine ⟨1 + m, by simp only [sSeq, sIf, sSet, sRet, sNext, sExpr, sFor, sPar2, sRaise0, sBreak, sCont, sRetN, eOp2, eOp1, eOpN, eVar, eC, eIf, eAnd, eOr, eNot, DL.tB, tNot, tAnd, tOr, aCons, aNil, eCall, eSl, oNone, oSome, eChain, Rs.bind_ok, Rs.bind_err, rs1_some, List.getElem?_cons_zero, List.getElem?_cons_succ, List.set_cons_zero, List.set_cons_succ, Bool.not_true, Bool.not_false, Bool.false_eq_true, if_true, if_false, tr_tup, gIx_t0, k1', k2, k3, a2, a3, gLen_t, c, gSum_1, k6], ?_⟩
              rw [fN_2, if_neg (by decide), if_neg (by decide), if_pos rfl]
              cases e : fN k a with
              | none =>
                rw [e] at m2
                have m2' : 1000 ≤ m := m2
                show 1000 ≤ 1 + m
                omega
              | some b =>
                rw [e] at m2
                have m2' : m = b := m2
                show 1 + m = b + 1
                omega
            | [a, b], go, _, _, _, _ => exact ⟨1000, go 2 hv (by simp), by rw [fN_3, if_neg (by decide)]; exact r61⟩
            | a :: b :: c :: r, go, _, _, _, _ => exact ⟨1000, go 2 hv (by simp only [List.length_cons]; omega), r61⟩
          · by_cases z5 : z = "and" ∨ z = "or"
            · have hv : (valD ["not", "and", "or"] [.int 2, .int 3, .int 3] z).getD (.int 0) = .int ((3 : Nat) : Int) := by
                rw [valD_many, if_neg (fun q => z4 q.symm)]
                rcases z5 with rfl | rfl <;> rfl
              match r, go, hg, hlen, hr, k1', z0 with
              | [], go, _, _, _, _, z0 => exact ⟨1000, go 3 hv (by simp), by rw [fN_1, if_neg (fun q => z0 ⟨q, rfl⟩)]; exact r61⟩
              | [a], go, _, _, _, _, _ => exact ⟨1000, go 3 hv (by simp), by rw [fN_2, if_neg z2, if_neg z3, if_neg z4]; exact r61⟩
              | [a, b], _, hg, hlen, hr, k1', _ =>
                have a2 := hg 3 hv
                have a3 : gNeX (.int (([D.str z, a, b].length : Nat) : Int)) (.int ((3 : Nat) : Int)) = some (.bl false) := hlen 3
                obtain ⟨m, m1, m2⟩ := hF a ω (hr a (by simp))
                obtain ⟨n, n1, n2⟩ := hF b ω (hr b (by simp))
                have c := comp_2 (F := F) (h := .str z) (x := .val (.map ["not", "and", "or"] [.int 2, .int 3, .int 3])) m1 n1 hk
                have k6 : gAdd (.int 1) (.int ((m : Nat) + (n : Nat) : Int)) = some (.int ((1 + (m + n) : Nat) : Int)) := gAdd_nat 1 (m + n)
                refine ⟨1 + (m + n), by simp only [sSeq, sIf, sSet, sRet, sNext, sExpr, sFor, sPar2, sRaise0, sBreak, sCont, sRetN, eOp2, eOp1, eOpN, eVar, eC, eIf, eAnd, eOr, eNot, DL.tB, tNot, tAnd, tOr, aCons, aNil, eCall, eSl, oNone, oSome, eChain, Rs.bind_ok, Rs.bind_err, rs1_some, List.getElem?_cons_zero, List.getElem?_cons_succ, List.set_cons_zero, List.set_cons_succ, Bool.not_true, Bool.not_false, Bool.false_eq_true, if_true, if_false, tr_tup, gIx_t0, k1', k2, k3, a2, a3, gLen_t, c, gSum_2, k6], ?_⟩
                rw [fN_3, if_pos z5]
                cases e : fN k a with
                | none =>
                  rw [e] at m2
                  have m2' : 1000 ≤ m := m2
                  show 1000 ≤ 1 + (m + n)
                  omega
                | some x =>
                  cases e2 : fN k b with
                  | none =>
                    rw [e2] at n2
                    have n2' : 1000 ≤ n := n2
                    show 1000 ≤ 1 + (m + n)
                    omega
                  | some y =>
                    rw [e] at m2
                    rw [e2] at n2
                    have m2' : m = x := m2
                    have n2' : n = y := n2
                    show 1 + (m + n) = x + y + 1
                    omega
              | a :: b :: c :: r, go, _, _, _, _, _ => exact ⟨1000, go 3 hv (by simp only [List.length_cons]; omega), r61⟩
            · have hv : (valD ["not", "and", "or"] [.int 2, .int 3, .int 3] z).getD (.int 0) = .int ((0 : Nat) : Int) := by
                rw [valD_many, if_neg (fun q => z4 q.symm), if_neg (fun q => z5 (.inl q.symm)), if_neg (fun q => z5 (.inr q.symm))]
                rfl
              refine ⟨1000, go 0 hv (by simp), ?_⟩
              match r, z0 with
              | [], z0 => rw [fN_1, if_neg (fun q => z0 ⟨q, rfl⟩)]; exact r61
              | [a], _ => rw [fN_2, if_neg z2, if_neg z3, if_neg z4]; exact r61
              | [a, b], _ => rw [fN_3, if_neg z5]; exact r61
              | a :: b :: c :: r, _ => exact r61
end
theorem nodes_zero {F P : List D → Om → Rs D} : ∀ d ω, Gd d → ∃ n : Nat, runB 4 (g_w_k24_nodes F P) [d, .int ((0 : Nat) : Int)] ω = .ok (.int (n : Nat)) ω ∧ RL (fN 0 d) n := fun d ω h => by
  refine ⟨1000, runB_eq (ds := [d, .int ((0 : Nat) : Int)]) ?_, Nat.le_refl _⟩
  have k1 : gEqX (.int ((0 : Nat) : Int)) (.int 0) = some (.bl true) := gEqX_nat 0 0
  show g_w_k24_nodes F P [.val d, .val (.int ((0 : Nat) : Int)), .emp, .emp] ω = _
  refine sSeq_rt ((sIf_t (ω1 := ω) ?_).trans (sRet_run rfl))
  simp only [sSeq, sIf, sSet, sRet, sNext, sExpr, sFor, sPar2, sRaise0, sBreak, sCont, sRetN, eOp2, eOp1, eOpN, eVar, eC, eIf, eAnd, eOr, eNot, DL.tB, tNot, tAnd, tOr, aCons, aNil, eCall, eSl, oNone, oSome, eChain, Rs.bind_ok, Rs.bind_err, rs1_some, List.getElem?_cons_zero, List.getElem?_cons_succ, List.set_cons_zero, List.set_cons_succ, Bool.not_true, Bool.not_false, Bool.false_eq_true, if_true, if_false, k1]
theorem nodes_all : ∀ (k n : Nat), k < n → Lok (f_w_k24_nodes n) k
  | k, 0, h => absurd h (Nat.not_lt_zero _)
  | 0, n + 1, _ => nodes_zero
  | k + 1, n + 1, h => fun d ω hd => nodes_run (nodes_all k n (by omega)) (fun d ω hd => steps_run (nodes_all k n (by omega)) hd) hd
theorem RL_dec {o : Option Nat} {n : Nat} (h : RL o n) : decide (60 < n) = !le60 o := by
  cases o with
  | none =>
    have : 1000 ≤ n := h
    exact decide_eq_true (by omega)
  | some m =>
    have : n = m := h
    subst this
    show decide (60 < n) = !decide (n ≤ 60)
    by_cases q : n ≤ 60
    · rw [decide_eq_true q, decide_eq_false (by omega)]; rfl
    · rw [decide_eq_false q, decide_eq_true (by omega)]; rfl
/-- the law's question: more than 60 nodes -/
theorem over_run {d : D} {δ : Sls} {i : Nat} {ω : Om} (h : Gd d) (hi : δ[i]? = some (.val d)) : (DL.tB (eOp2 gGt (eCall (f_w_k24_nodes 14) (aCons (eVar i) (aCons (eC (.int 12)) aNil))) (eC (.int 60)))) δ ω = .ok (!isF d) ω := by
  obtain ⟨n, n1, n2⟩ := nodes_all 12 14 (by decide) d ω h
  have n1' : f_w_k24_nodes 14 [d, .int 12] ω = .ok (.int (n : Nat)) ω := n1
  have k1 : gGt (.int (n : Nat)) (.int 60) = some (.bl (decide (60 < n))) := gGt_nat n 60
  rw [RL_dec n2] at k1
  simp only [sSeq, sIf, sSet, sRet, sNext, sExpr, sFor, sPar2, sRaise0, sBreak, sCont, sRetN, eOp2, eOp1, eOpN, eVar, eC, eIf, eAnd, eOr, eNot, DL.tB, tNot, tAnd, tOr, aCons, aNil, eCall, eSl, oNone, oSome, eChain, Rs.bind_ok, Rs.bind_err, rs1_some, List.getElem?_cons_zero, List.getElem?_cons_succ, List.set_cons_zero, List.set_cons_succ, Bool.not_true, Bool.not_false, Bool.false_eq_true, if_true, if_false, hi, n1', k1]
  rfl
end K24

namespace K24
open PySem DL
/-! ### filters as data -/
def FF (f : Flt) : Prop := FP f ∧ nod f ≤ 60
theorem isF_enc {f : Flt} (h : FF f) : isF (enc f) = true := by
  unfold isF
  rw [(fN_enc f h.1.1).1 12 h.1.2]
  exact decide_eq_true h.2
theorem isF_inv {d : D} (h : isF d = true) : ∃ f, d = enc f ∧ FF f := by
  unfold isF at h
  cases e : fN 12 d with
  | none => rw [e] at h; cases h
  | some m =>
    rw [e] at h
    obtain ⟨f, f1, f2, f3, f4⟩ := fN_inv 12 d m e
    exact ⟨f, f1, ⟨f2, f3⟩, by rw [f4]; exact of_decide_eq_true h⟩
theorem FF_nd {f : Flt} (h : FF f) : ∀ x ∈ nd f, FF x := fun x hx => ⟨⟨nd_wf f h.1.1 x hx, Nat.le_trans (nd_dep f x hx) h.1.2⟩, by have := nd_lt f x hx; have := h.2; omega⟩
theorem FP_nd {f : Flt} (h : FP f) : ∀ x ∈ nd f, FP x := fun x hx => ⟨nd_wf f h.1 x hx, Nat.le_trans (nd_dep f x hx) h.2⟩
/-! ### what a filter needs -/
def notL : List Str := ["not", "and", "or"]
theorem nots_tup : gTup [.str "not", .str "and", .str "or"] = some (.tup [.str "not", .str "and", .str "or"]) := gTup_ok (by show 3 ≤ sizeLine; decide)
theorem nots_lst : gLst [.str "not", .str "and", .str "or"] = some (.lst [.str "not", .str "and", .str "or"]) := gLst_ok (by show 3 ≤ sizeLine; decide)
theorem two_tup {a b : D} : gTup [a, b] = some (.tup [a, b]) := gTup_ok (by show 2 ≤ sizeLine; decide)
theorem two_lst {a b : D} : gLst [a, b] = some (.lst [a, b]) := gLst_ok (by show 2 ≤ sizeLine; decide)
theorem in_not : gInV false (.str "not") (.tup [.str "not", .str "and", .str "or"]) = some (.bl true) ∧ gInV false (.str "not") (.lst [.str "not", .str "and", .str "or"]) = some (.bl true) := ⟨gInV_ts false "not" notL, gInV_ls false "not" notL⟩
theorem in_and : gInV false (.str "and") (.tup [.str "not", .str "and", .str "or"]) = some (.bl true) ∧ gInV false (.str "and") (.lst [.str "not", .str "and", .str "or"]) = some (.bl true) := ⟨gInV_ts false "and" notL, gInV_ls false "and" notL⟩
theorem in_or : gInV false (.str "or") (.tup [.str "not", .str "and", .str "or"]) = some (.bl true) ∧ gInV false (.str "or") (.lst [.str "not", .str "and", .str "or"]) = some (.bl true) := ⟨gInV_ts false "or" notL, gInV_ls false "or" notL⟩
theorem in_true : gInV false (.str "true") (.tup [.str "not", .str "and", .str "or"]) = some (.bl false) ∧ gInV false (.str "true") (.lst [.str "not", .str "and", .str "or"]) = some (.bl false) := ⟨gInV_ts false "true" notL, gInV_ls false "true" notL⟩
theorem in_label : gInV false (.str "label") (.tup [.str "not", .str "and", .str "or"]) = some (.bl false) ∧ gInV false (.str "label") (.lst [.str "not", .str "and", .str "or"]) = some (.bl false) := ⟨gInV_ts false "label" notL, gInV_ls false "label" notL⟩
theorem in_some : gInV false (.str "some") (.tup [.str "not", .str "and", .str "or"]) = some (.bl false) ∧ gInV false (.str "some") (.lst [.str "not", .str "and", .str "or"]) = some (.bl false) := ⟨gInV_ts false "some" notL, gInV_ls false "some" notL⟩
theorem sm_true : gEqX (.str "true") (.str "some") = some (.bl false) := gEqX_ss _ _
theorem sm_label : gEqX (.str "label") (.str "some") = some (.bl false) := gEqX_ss _ _
theorem sm_some : gEqX (.str "some") (.str "some") = some (.bl true) := gEqX_ss _ _
theorem gList_t (ds : List D) : gList [.tup ds] = some (.lst ds) := rfl
theorem needs_run (f : Flt) (hf : wf f = true) (ω : Om) : f_needs_at [enc f] ω = .ok (.tup ((nd f).map enc)) ω ∧ f_w_fp_needs [enc f] ω = .ok (.lst ((nd f).map enc)) ω := by
  suffices q : g_needs_at [.val (enc f)] ω = .ok (.rt (.tup ((nd f).map enc))) ω ∧ g_w_fp_needs [.val (enc f)] ω = .ok (.rt (.lst ((nd f).map enc))) ω by
    exact ⟨runB_eq (ds := [enc f]) q.1, runB_eq (ds := [enc f]) q.2⟩
  cases f with
  | tru =>
    have e : enc .tru = .tup [.str "true"] := rfl
    rw [e]
    constructor
    · simp only [g_needs_at, sSeq, sIf, sSet, sRet, sNext, sExpr, sFor, sPar2, sRaise0, sBreak, sCont, sRetN, eOp2, eOp1, eOpN, eVar, eC, eIf, eAnd, eOr, eNot, DL.tB, tNot, tAnd, tOr, aCons, aNil, eCall, eSl, oNone, oSome, eChain, Rs.bind_ok, Rs.bind_err, rs1_some, List.getElem?_cons_zero, List.getElem?_cons_succ, List.set_cons_zero, List.set_cons_succ, Bool.not_true, Bool.not_false, Bool.false_eq_true, if_true, if_false, gIx_t0, nots_tup, in_true, sm_true, gTup_nil]; rfl
    · simp only [g_w_fp_needs, sSeq, sIf, sSet, sRet, sNext, sExpr, sFor, sPar2, sRaise0, sBreak, sCont, sRetN, eOp2, eOp1, eOpN, eVar, eC, eIf, eAnd, eOr, eNot, DL.tB, tNot, tAnd, tOr, aCons, aNil, eCall, eSl, oNone, oSome, eChain, Rs.bind_ok, Rs.bind_err, rs1_some, List.getElem?_cons_zero, List.getElem?_cons_succ, List.set_cons_zero, List.set_cons_succ, Bool.not_true, Bool.not_false, Bool.false_eq_true, if_true, if_false, gIx_t0, nots_lst, in_true, sm_true, gLst_nil]; rfl
  | lab x =>
    have e : enc (.lab x) = .tup [.str "label", .str x] := rfl
    rw [e]
    constructor
    · simp only [g_needs_at, sSeq, sIf, sSet, sRet, sNext, sExpr, sFor, sPar2, sRaise0, sBreak, sCont, sRetN, eOp2, eOp1, eOpN, eVar, eC, eIf, eAnd, eOr, eNot, DL.tB, tNot, tAnd, tOr, aCons, aNil, eCall, eSl, oNone, oSome, eChain, Rs.bind_ok, Rs.bind_err, rs1_some, List.getElem?_cons_zero, List.getElem?_cons_succ, List.set_cons_zero, List.set_cons_succ, Bool.not_true, Bool.not_false, Bool.false_eq_true, if_true, if_false, gIx_t0, nots_tup, in_label, sm_label, gTup_nil]; rfl
    · simp only [g_w_fp_needs, sSeq, sIf, sSet, sRet, sNext, sExpr, sFor, sPar2, sRaise0, sBreak, sCont, sRetN, eOp2, eOp1, eOpN, eVar, eC, eIf, eAnd, eOr, eNot, DL.tB, tNot, tAnd, tOr, aCons, aNil, eCall, eSl, oNone, oSome, eChain, Rs.bind_ok, Rs.bind_err, rs1_some, List.getElem?_cons_zero, List.getElem?_cons_succ, List.set_cons_zero, List.set_cons_succ, Bool.not_true, Bool.not_false, Bool.false_eq_true, if_true, if_false, gIx_t0, nots_lst, in_label, sm_label, gLst_nil]; rfl
  | no f =>
    have e : enc (.no f) = .tup [.str "not", enc f] := rfl
    rw [e]
    constructor
    · simp only [g_needs_at, sSeq, sIf, sSet, sRet, sNext, sExpr, sFor, sPar2, sRaise0, sBreak, sCont, sRetN, eOp2, eOp1, eOpN, eVar, eC, eIf, eAnd, eOr, eNot, DL.tB, tNot, tAnd, tOr, aCons, aNil, eCall, eSl, oNone, oSome, eChain, Rs.bind_ok, Rs.bind_err, rs1_some, List.getElem?_cons_zero, List.getElem?_cons_succ, List.set_cons_zero, List.set_cons_succ, Bool.not_true, Bool.not_false, Bool.false_eq_true, if_true, if_false, gIx_t0, nots_tup, in_not, gSl_t1]; rfl
    · simp only [g_w_fp_needs, sSeq, sIf, sSet, sRet, sNext, sExpr, sFor, sPar2, sRaise0, sBreak, sCont, sRetN, eOp2, eOp1, eOpN, eVar, eC, eIf, eAnd, eOr, eNot, DL.tB, tNot, tAnd, tOr, aCons, aNil, eCall, eSl, oNone, oSome, eChain, Rs.bind_ok, Rs.bind_err, rs1_some, List.getElem?_cons_zero, List.getElem?_cons_succ, List.set_cons_zero, List.set_cons_succ, Bool.not_true, Bool.not_false, Bool.false_eq_true, if_true, if_false, gIx_t0, nots_lst, in_not, gSl_t1, gList_t]; rfl
  | an f g =>
    have e : enc (.an f g) = .tup [.str "and", enc f, enc g] := rfl
    rw [e]
    constructor
    · simp only [g_needs_at, sSeq, sIf, sSet, sRet, sNext, sExpr, sFor, sPar2, sRaise0, sBreak, sCont, sRetN, eOp2, eOp1, eOpN, eVar, eC, eIf, eAnd, eOr, eNot, DL.tB, tNot, tAnd, tOr, aCons, aNil, eCall, eSl, oNone, oSome, eChain, Rs.bind_ok, Rs.bind_err, rs1_some, List.getElem?_cons_zero, List.getElem?_cons_succ, List.set_cons_zero, List.set_cons_succ, Bool.not_true, Bool.not_false, Bool.false_eq_true, if_true, if_false, gIx_t0, nots_tup, in_and, gSl_t1]; rfl
    · simp only [g_w_fp_needs, sSeq, sIf, sSet, sRet, sNext, sExpr, sFor, sPar2, sRaise0, sBreak, sCont, sRetN, eOp2, eOp1, eOpN, eVar, eC, eIf, eAnd, eOr, eNot, DL.tB, tNot, tAnd, tOr, aCons, aNil, eCall, eSl, oNone, oSome, eChain, Rs.bind_ok, Rs.bind_err, rs1_some, List.getElem?_cons_zero, List.getElem?_cons_succ, List.set_cons_zero, List.set_cons_succ, Bool.not_true, Bool.not_false, Bool.false_eq_true, if_true, if_false, gIx_t0, nots_lst, in_and, gSl_t1, gList_t]; rfl
  | orr f g =>
    have e : enc (.orr f g) = .tup [.str "or", enc f, enc g] := rfl
    rw [e]
    constructor
    · simp only [g_needs_at, sSeq, sIf, sSet, sRet, sNext, sExpr, sFor, sPar2, sRaise0, sBreak, sCont, sRetN, eOp2, eOp1, eOpN, eVar, eC, eIf, eAnd, eOr, eNot, DL.tB, tNot, tAnd, tOr, aCons, aNil, eCall, eSl, oNone, oSome, eChain, Rs.bind_ok, Rs.bind_err, rs1_some, List.getElem?_cons_zero, List.getElem?_cons_succ, List.set_cons_zero, List.set_cons_succ, Bool.not_true, Bool.not_false, Bool.false_eq_true, if_true, if_false, gIx_t0, nots_tup, in_or, gSl_t1]; rfl
    · simp only [g_w_fp_needs, sSeq, sIf, sSet, sRet, sNext, sExpr, sFor, sPar2, sRaise0, sBreak, sCont, sRetN, eOp2, eOp1, eOpN, eVar, eC, eIf, eAnd, eOr, eNot, DL.tB, tNot, tAnd, tOr, aCons, aNil, eCall, eSl, oNone, oSome, eChain, Rs.bind_ok, Rs.bind_err, rs1_some, List.getElem?_cons_zero, List.getElem?_cons_succ, List.set_cons_zero, List.set_cons_succ, Bool.not_true, Bool.not_false, Bool.false_eq_true, if_true, if_false, gIx_t0, nots_lst, in_or, gSl_t1, gList_t]; rfl
  | stop =>
    have e : enc .stop = .tup [.str "some", .tup []] := rfl
    rw [e]
    have k := gNeX_t0 []
    rw [List.isEmpty_nil] at k
    constructor
    · simp only [g_needs_at, sSeq, sIf, sSet, sRet, sNext, sExpr, sFor, sPar2, sRaise0, sBreak, sCont, sRetN, eOp2, eOp1, eOpN, eVar, eC, eIf, eAnd, eOr, eNot, DL.tB, tNot, tAnd, tOr, aCons, aNil, eCall, eSl, oNone, oSome, eChain, Rs.bind_ok, Rs.bind_err, rs1_some, List.getElem?_cons_zero, List.getElem?_cons_succ, List.set_cons_zero, List.set_cons_succ, Bool.not_true, Bool.not_false, Bool.false_eq_true, if_true, if_false, gIx_t0, gIx_t1, nots_tup, in_some, sm_some, gTup_nil, k]; rfl
    · simp only [g_w_fp_needs, sSeq, sIf, sSet, sRet, sNext, sExpr, sFor, sPar2, sRaise0, sBreak, sCont, sRetN, eOp2, eOp1, eOpN, eVar, eC, eIf, eAnd, eOr, eNot, DL.tB, tNot, tAnd, tOr, aCons, aNil, eCall, eSl, oNone, oSome, eChain, Rs.bind_ok, Rs.bind_err, rs1_some, List.getElem?_cons_zero, List.getElem?_cons_succ, List.set_cons_zero, List.set_cons_succ, Bool.not_true, Bool.not_false, Bool.false_eq_true, if_true, if_false, gIx_t0, gIx_t1, nots_lst, in_some, sm_some, gTup_nil, gLst_nil, k]; rfl
  | step a f r =>
    simp only [wf, Bool.and_eq_true] at hf
    have e : enc (.step a f r) = .tup [.str "some", .tup (.tup [.str a, enc f] :: stp r)] := rfl
    rw [e]
    have k := gNeX_t0 (.tup [.str a, enc f] :: stp r)
    rw [List.isEmpty_cons] at k
    have er : (nd (.step a f r)).map enc = [enc f, .tup [.str "some", .tup (stp r)]] := by
      show [enc f, enc r] = _
      rw [stop_path r hf.2.2.2.1]
    rw [er]
    constructor
    · simp only [g_needs_at, sSeq, sIf, sSet, sRet, sNext, sExpr, sFor, sPar2, sRaise0, sBreak, sCont, sRetN, eOp2, eOp1, eOpN, eVar, eC, eIf, eAnd, eOr, eNot, DL.tB, tNot, tAnd, tOr, aCons, aNil, eCall, eSl, oNone, oSome, eChain, Rs.bind_ok, Rs.bind_err, rs1_some, List.getElem?_cons_zero, List.getElem?_cons_succ, List.set_cons_zero, List.set_cons_succ, Bool.not_true, Bool.not_false, Bool.false_eq_true, if_true, if_false, gIx_t0, gIx_t1, nots_tup, in_some, sm_some, gTup_nil, k, gSl_t1, two_tup]
    · simp only [g_w_fp_needs, sSeq, sIf, sSet, sRet, sNext, sExpr, sFor, sPar2, sRaise0, sBreak, sCont, sRetN, eOp2, eOp1, eOpN, eVar, eC, eIf, eAnd, eOr, eNot, DL.tB, tNot, tAnd, tOr, aCons, aNil, eCall, eSl, oNone, oSome, eChain, Rs.bind_ok, Rs.bind_err, rs1_some, List.getElem?_cons_zero, List.getElem?_cons_succ, List.set_cons_zero, List.set_cons_succ, Bool.not_true, Bool.not_false, Bool.false_eq_true, if_true, if_false, gIx_t0, gIx_t1, nots_lst, in_some, sm_some, gTup_nil, two_lst, k, gSl_t1, two_tup]
theorem needs_of_run {d : D} (h : Gd d) (ω : Om) : (∃ f, d = enc f ∧ FF f ∧ f_needs_of [d] ω = .ok (.tup ((nd f).map enc)) ω) ∨ (isF d = false ∧ f_needs_of [d] ω = .err ("BadFilter", []) ω) := by
  have k1 := is_filter_run (ω := ω) h
  cases hf : isF d with
  | false =>
    rw [hf] at k1
    refine .inr ⟨rfl, runB_err (ds := [d]) ?_⟩
    show g_needs_of [.val d] ω = _
    simp only [g_needs_of, sSeq, sIf, sSet, sRet, sNext, sExpr, sFor, sPar2, sRaise0, sBreak, sCont, sRetN, eOp2, eOp1, eOpN, eVar, eC, eIf, eAnd, eOr, eNot, DL.tB, tNot, tAnd, tOr, aCons, aNil, eCall, eSl, oNone, oSome, eChain, Rs.bind_ok, Rs.bind_err, rs1_some, List.getElem?_cons_zero, List.getElem?_cons_succ, List.set_cons_zero, List.set_cons_succ, Bool.not_true, Bool.not_false, Bool.false_eq_true, if_true, if_false, k1]
  | true =>
    rw [hf] at k1
    obtain ⟨f, rfl, h2⟩ := isF_inv hf
    refine .inl ⟨f, rfl, h2, runB_eq (ds := [enc f]) ?_⟩
    show g_needs_of [.val (enc f)] ω = _
    have k2 := (needs_run f h2.1.1 ω).1
    simp only [g_needs_of, sSeq, sIf, sSet, sRet, sNext, sExpr, sFor, sPar2, sRaise0, sBreak, sCont, sRetN, eOp2, eOp1, eOpN, eVar, eC, eIf, eAnd, eOr, eNot, DL.tB, tNot, tAnd, tOr, aCons, aNil, eCall, eSl, oNone, oSome, eChain, Rs.bind_ok, Rs.bind_err, rs1_some, List.getElem?_cons_zero, List.getElem?_cons_succ, List.set_cons_zero, List.set_cons_succ, Bool.not_true, Bool.not_false, Bool.false_eq_true, if_true, if_false, k1, k2]
/-! ### equal, kinds too -/
def txD : Nat → D → Bool
  | 0, _ => false
  | _ + 1, .str _ => true
  | n + 1, .tup ds => ds.all (txD n)
  | _ + 1, _ => false
theorem scals_bls : ∀ bs : List Bool, scalsD (bs.map .bl) = some (bs.map L2.V.bl)
  | [] => rfl
  | z :: r => by
    rw [List.map_cons]
    unfold scalsD
    rw [scals_bls r]
    rfl
theorem noFalse : ∀ l : List D, gInV true (.bl false) (.lst (l.map fun _ => D.bl true)) = some (.bl true) := by
  intro l
  have e : (l.map fun _ => D.bl true) = (l.map fun _ => true).map .bl := by rw [List.map_map]; rfl
  rw [e]
  show (match dScal (.bl false), scalsD ((l.map fun _ => true).map .bl) with
    | some x, some xs => some (D.bl (if true = true then !L2.inV x xs else L2.inV x xs))
    | _, _ => none) = _
  rw [scals_bls]
  show some (D.bl (!L2.inV (.bl false) ((l.map fun _ => true).map L2.V.bl))) = _
  have q : ∀ l : List D, L2.inV (.bl false) ((l.map fun _ => true).map L2.V.bl) = false := by
    intro l
    induction l with
    | nil => rfl
    | cons a r ih =>
      unfold L2.inV at ih ⊢
      rw [List.map_cons, List.map_cons, List.any_cons, ih]
      rfl
  rw [q]
  rfl
theorem zipD_self (l : List D) : zipD l l = l.map fun d => .tup [d, d] := by
  unfold zipD
  induction l with
  | nil => rfl
  | cons a r ih =>
    rw [List.zip_cons_cons, List.map_cons, ih]
    rfl
theorem same_run : ∀ (n : Nat) (d : D) (ω : Om), txD n d = true → f_w_fp_same n [d, d] ω = .ok (.bl true) ω
  | 0, _, _, h => by cases h
  | n + 1, d, ω, h => by
    refine runB_eq (ds := [d, d]) ?_
    show g_w_fp_same (f_w_fp_same n) [.val d, .val d, .emp, .emp] ω = _
    cases d with
    | str x =>
      have k1 : gIsc kb [.str x, .ty "tuple"] = some (.bl false) := isc_tup rfl
      have k2 : gIsN false (.str x) .non = some (.bl false) := rfl
      have k3 : gIsB (.str x) (.bl true) = some (.bl false) := rfl
      have k4 : gIsB (.str x) (.bl false) = some (.bl false) := rfl
      have k5 : gIsc kb [.str x, .ty "str"] = some (.bl true) := isc_str rfl
      have k6 := gEqX_ss x x
      rw [decide_eq_true rfl] at k6
      simp only [g_w_fp_same, sSeq, sIf, sSet, sRet, sNext, sExpr, sFor, sPar2, sRaise0, sBreak, sCont, sRetN, eOp2, eOp1, eOpN, eVar, eC, eIf, eAnd, eOr, eNot, DL.tB, tNot, tAnd, tOr, aCons, aNil, eCall, eSl, oNone, oSome, eChain, Rs.bind_ok, Rs.bind_err, rs1_some, List.getElem?_cons_zero, List.getElem?_cons_succ, List.set_cons_zero, List.set_cons_succ, Bool.not_true, Bool.not_false, Bool.false_eq_true, if_true, if_false, k1, k2, k3, k4, k5, k6]
    | tup ds =>
      have hd : ∀ x ∈ ds, txD n x = true := List.all_eq_true.mp h
      have k1 : gIsc kb [.tup ds, .ty "tuple"] = some (.bl true) := isc_tup rfl
      have k2 : gNeX (.int (ds.length : Nat)) (.int (ds.length : Nat)) = some (.bl false) := by rw [gNeX_nat, decide_eq_true rfl]; rfl
      have k3 : eComp (iZip (aCons (eVar 0) (aCons (eVar 1) aNil))) (gdTup2 2 3) tTrue (eCall (f_w_fp_same n) (aCons (eVar 2) (aCons (eVar 3) aNil))) [2, 3] [.val (.tup ds), .val (.tup ds), .emp, .emp] ω = .ok (.lst (ds.map fun _ => D.bl true)) ω := by
        refine eComp_run (ds := zipD ds ds) (ω1 := ω) ?_ ?_
        · simp only [iZip, sSeq, sIf, sSet, sRet, sNext, sExpr, sFor, sPar2, sRaise0, sBreak, sCont, sRetN, eOp2, eOp1, eOpN, eVar, eC, eIf, eAnd, eOr, eNot, DL.tB, tNot, tAnd, tOr, aCons, aNil, eCall, eSl, oNone, oSome, eChain, Rs.bind_ok, Rs.bind_err, rs1_some, List.getElem?_cons_zero, List.getElem?_cons_succ, List.set_cons_zero, List.set_cons_succ, Bool.not_true, Bool.not_false, Bool.false_eq_true, if_true, if_false]
        · rw [zipD_self]
          refine compF_map (fun d : D => D.tup [d, d]) (fun _ => D.bl true) ds fun c hc => ⟨[.val (.tup ds), .val (.tup ds), .val c, .val c], rfl, ?_⟩
          have := same_run n c ω (hd c hc)
          simp only [sSeq, sIf, sSet, sRet, sNext, sExpr, sFor, sPar2, sRaise0, sBreak, sCont, sRetN, eOp2, eOp1, eOpN, eVar, eC, eIf, eAnd, eOr, eNot, DL.tB, tNot, tAnd, tOr, aCons, aNil, eCall, eSl, oNone, oSome, eChain, Rs.bind_ok, Rs.bind_err, rs1_some, List.getElem?_cons_zero, List.getElem?_cons_succ, List.set_cons_zero, List.set_cons_succ, Bool.not_true, Bool.not_false, Bool.false_eq_true, if_true, if_false, this]
      have k4 := noFalse ds
      simp only [g_w_fp_same, sSeq, sIf, sSet, sRet, sNext, sExpr, sFor, sPar2, sRaise0, sBreak, sCont, sRetN, eOp2, eOp1, eOpN, eVar, eC, eIf, eAnd, eOr, eNot, DL.tB, tNot, tAnd, tOr, aCons, aNil, eCall, eSl, oNone, oSome, eChain, Rs.bind_ok, Rs.bind_err, rs1_some, List.getElem?_cons_zero, List.getElem?_cons_succ, List.set_cons_zero, List.set_cons_succ, Bool.not_true, Bool.not_false, Bool.false_eq_true, if_true, if_false, k1, gLen_t, k2, k3, k4]
    | _ => cases h
theorem tx_up : ∀ (n m : Nat) (d : D), n ≤ m → txD n d = true → txD m d = true
  | 0, _, _, _, h => by cases h
  | n + 1, 0, _, h, _ => absurd h (Nat.not_succ_le_zero _)
  | n + 1, m + 1, .str _, _, _ => rfl
  | n + 1, m + 1, .tup ds, h, hd => List.all_eq_true.mpr fun x hx => tx_up n m x (by omega) (List.all_eq_true.mp hd x hx)
  | n + 1, _ + 1, .non, _, h | n + 1, _ + 1, .bl _, _, h | n + 1, _ + 1, .int _, _, h | n + 1, _ + 1, .lst _, _, h | n + 1, _ + 1, .scr _, _, h | n + 1, _ + 1, .st, _, h | n + 1, _ + 1, .exc _ _, _, h | n + 1, _ + 1, .ty _, _, h | n + 1, _ + 1, .glo _, _, h | n + 1, _ + 1, .map _ _, _, h => by cases h
theorem tx_str {n : Nat} {x : Str} (h : 0 < n) : txD n (.str x) = true := by
  cases n with
  | zero => omega
  | succ n => rfl
theorem tx_enc : ∀ f : Flt, txD (3 * dep f + 1) (enc f) = true ∧ (∀ x ∈ stp f, txD (3 * dep f - 1) x = true)
  | .tru => ⟨rfl, fun x h => nomatch h⟩
  | .lab x => ⟨rfl, fun x h => nomatch h⟩
  | .no f => ⟨by
      have i := tx_up _ (3 * (dep f + 1)) _ (by omega) (tx_enc f).1
      show ([D.str "not", enc f].all (txD (3 * (dep f + 1)))) = true
      simp only [List.all_cons, List.all_nil, i, tx_str (show 0 < 3 * (dep f + 1) by omega), Bool.and_self], fun x h => nomatch h⟩
  | .an f g => ⟨by
      have i := tx_up _ (3 * (max (dep f) (dep g) + 1)) _ (by omega) (tx_enc f).1
      have j := tx_up _ (3 * (max (dep f) (dep g) + 1)) _ (by omega) (tx_enc g).1
      show ([D.str "and", enc f, enc g].all (txD (3 * (max (dep f) (dep g) + 1)))) = true
      simp only [List.all_cons, List.all_nil, i, j, tx_str (show 0 < 3 * (max (dep f) (dep g) + 1) by omega), Bool.and_self], fun x h => nomatch h⟩
  | .orr f g => ⟨by
      have i := tx_up _ (3 * (max (dep f) (dep g) + 1)) _ (by omega) (tx_enc f).1
      have j := tx_up _ (3 * (max (dep f) (dep g) + 1)) _ (by omega) (tx_enc g).1
      show ([D.str "or", enc f, enc g].all (txD (3 * (max (dep f) (dep g) + 1)))) = true
      simp only [List.all_cons, List.all_nil, i, j, tx_str (show 0 < 3 * (max (dep f) (dep g) + 1) by omega), Bool.and_self], fun x h => nomatch h⟩
  | .stop => ⟨rfl, fun x h => nomatch h⟩
  | .step a f r => by
    have e1 : dep (.step a f r) = max (dep f + 1) (dep r) := rfl
    have i := (tx_enc f).1
    have j := (tx_enc r).2
    have B : ∀ x ∈ stp (.step a f r), txD (3 * dep (.step a f r) - 1) x = true := fun x hx => by
      rcases List.mem_cons.mp (show x ∈ D.tup [.str a, enc f] :: stp r from hx) with rfl | hx
      · obtain ⟨q, hq⟩ : ∃ q, 3 * dep (.step a f r) - 1 = q + 1 := ⟨3 * dep (.step a f r) - 2, by rw [e1]; omega⟩
        rw [hq]
        have i' := tx_up _ q _ (by rw [e1] at hq; omega) i
        show ([D.str a, enc f].all (txD q)) = true
        simp only [List.all_cons, List.all_nil, i', tx_str (show 0 < q by rw [e1] at hq; omega), Bool.and_self]
      · exact tx_up _ _ _ (by rw [e1]; omega) (j x hx)
    refine ⟨?_, B⟩
    obtain ⟨q, hq⟩ : ∃ q, 3 * dep (.step a f r) = q + 1 := ⟨3 * dep (.step a f r) - 1, by rw [e1]; omega⟩
    have hq' : 3 * dep (.step a f r) - 1 = q := by omega
    rw [hq'] at B
    rw [hq]
    show ([D.str "some", .tup (stp (.step a f r))].all (txD (q + 1))) = true
    have e2 : txD (q + 1) (.tup (stp (.step a f r))) = true := List.all_eq_true.mpr B
    simp only [List.all_cons, List.all_nil, e2, tx_str (show 0 < q + 1 by omega), Bool.and_self]
theorem tx_L {l : List Flt} (h : ∀ f ∈ l, FP f) : txD 64 (.tup (l.map enc)) = true := by
  show (l.map enc).all (txD 63) = true
  rw [List.all_map]
  refine List.all_eq_true.mpr fun f hf => ?_
  have := (h f hf).2
  exact tx_up _ _ _ (by omega) (tx_enc f).1
end K24

namespace K24
open PySem DL
/-! ### gathered -/
theorem pure_enc : ∀ f : Flt, pureD (enc f) = true ∧ pureD.pureL (stp f) = true
  | .tru => ⟨rfl, rfl⟩
  | .lab x => ⟨rfl, rfl⟩
  | .no f => ⟨by
      show (true && (pureD (enc f) && true)) = true
      rw [(pure_enc f).1]
      rfl, rfl⟩
  | .an f g => ⟨by
      show (true && (pureD (enc f) && (pureD (enc g) && true))) = true
      rw [(pure_enc f).1, (pure_enc g).1]
      rfl, rfl⟩
  | .orr f g => ⟨by
      show (true && (pureD (enc f) && (pureD (enc g) && true))) = true
      rw [(pure_enc f).1, (pure_enc g).1]
      rfl, rfl⟩
  | .stop => ⟨rfl, rfl⟩
  | .step a f r => by
      have B : pureD.pureL (stp (.step a f r)) = true := by
        show ((true && (pureD (enc f) && true)) && pureD.pureL (stp r)) = true
        rw [(pure_enc f).1, (pure_enc r).2]
        rfl
      refine ⟨?_, B⟩
      show (true && (pureD.pureL (stp (.step a f r)) && true)) = true
      rw [B]
      rfl
theorem pureL_enc : ∀ l : List Flt, pureD.pureL (l.map enc) = true
  | [] => rfl
  | f :: r => by
    show (pureD (enc f) && pureD.pureL (r.map enc)) = true
    rw [(pure_enc f).1, pureL_enc r]
    rfl
def accO (ω : Om) (l : List Flt) : Om := { ω with acc := l.map enc }
theorem inAcc_run {f : Flt} {F : List Flt} {ω : Om} {x : Sl} (hf : FP f) (hF : ∀ x ∈ F, FP x) : tInAcc 1 (eVar 0) [.val (enc f), .val .st, x] (accO ω F) = .ok (decide (f ∈ F)) (accO ω F) := by
  unfold tInAcc
  simp only [eVar, List.getElem?_cons_zero, List.getElem?_cons_succ, Rs.bind_ok]
  rw [show (accO ω F).acc = F.map enc from rfl, fE.py, fE.pyL]
  dsimp only
  rw [if_pos ⟨fE.shaped hf, fE.layL F hF⟩, fE.any hf hF]
theorem gathered_run : ∀ (n : Nat) (f : Flt) (F : List Flt) (ω : Om), nod f < n → FP f → (∀ x ∈ F, FP x) → F.length + nod f < 1000000 → f_gathered n [enc f, .st] (accO ω F) = .ok .non (accO ω (gath nd n f F))
  | 0, _, _, _, h, _, _, _ => absurd h (Nat.not_lt_zero _)
  | n + 1, f, F, ω, h, hf, hF, hl => by
    have hs : sizeLine = 16777216 := rfl
    have k1 := inAcc_run (x := .emp) (ω := ω) hf hF
    show runB 3 (g_gathered (f_gathered n)) [enc f, .st] (accO ω F) = _
    by_cases hm : f ∈ F
    · rw [decide_eq_true hm] at k1
      have e : gath nd (n + 1) f F = F := by unfold gath; rw [if_pos hm]
      rw [e]
      refine runB_eq (ds := [enc f, .st]) ?_
      show g_gathered (f_gathered n) [.val (enc f), .val .st, .emp] (accO ω F) = _
      exact sSeq_rt ((sIf_t k1).trans rfl)
    · rw [decide_eq_false hm] at k1
      have e : gath nd (n + 1) f F = (nd f).foldl (fun a x => gath nd n x a) F ++ [f] := by
        show (if f ∈ F then _ else _) = _
        rw [if_neg hm]
      rw [e]
      have key : ∀ (l : List Flt) (F : List Flt) (x : Sl), (∀ y ∈ l, nod y < n ∧ FP y) → (∀ x ∈ F, FP x) → F.length + (l.map nod).sum < 1000000 →
          ∃ x', loopF (gdName 2) (sExpr (eCall (f_gathered n) (aCons (eVar 2) (aCons (eVar 1) aNil)))) (l.map enc) [.val (enc f), .val .st, x] (accO ω F) = .ok (.nx [.val (enc f), .val .st, x']) (accO ω (l.foldl (fun a x => gath nd n x a) F)) := by
        intro l
        induction l with
        | nil => exact fun F x _ _ _ => ⟨x, rfl⟩
        | cons y r ih =>
          intro F x hy hF hl
          obtain ⟨y1, y2⟩ := hy y (by simp)
          rw [List.map_cons, List.sum_cons] at hl
          have g1 := gathered_run n y F ω y1 y2 hF (by omega)
          have g2 := gath_len nd_lt n y F nd_sum
          have g3 := gath_all nd_lt FP (fun d hd => FP_nd hd) n y F y2 hF
          obtain ⟨x', q⟩ := ih (gath nd n y F) (.val (enc y)) (fun z hz => hy z (by simp [hz])) g3 (by omega)
          refine ⟨x', ?_⟩
          rw [List.map_cons, List.foldl_cons, ← q]
          refine loopF_step (δ1 := [.val (enc f), .val .st, .val (enc y)]) rfl ?_
          simp only [sSeq, sIf, sSet, sRet, sNext, sExpr, sFor, sPar2, sRaise0, sBreak, sCont, sRetN, eOp2, eOp1, eOpN, eVar, eC, eIf, eAnd, eOr, eNot, DL.tB, tNot, tAnd, tOr, aCons, aNil, eCall, eSl, oNone, oSome, eChain, Rs.bind_ok, Rs.bind_err, rs1_some, List.getElem?_cons_zero, List.getElem?_cons_succ, List.set_cons_zero, List.set_cons_succ, Bool.not_true, Bool.not_false, Bool.false_eq_true, if_true, if_false, g1]
      have hns := nd_sum f
      obtain ⟨x', q⟩ := key (nd f) F .emp (fun y hy => ⟨by have := nd_lt f y hy; omega, FP_nd hf y hy⟩) hF (by omega)
      have k2 := (needs_run f hf.1 (accO ω F)).1
      have k3 : iAny (eCall f_needs_at (aCons (eVar 0) aNil)) [.val (enc f), .val .st, .emp] (accO ω F) = .ok ((nd f).map enc) (accO ω F) := iAny_t (by simp only [sSeq, sIf, sSet, sRet, sNext, sExpr, sFor, sPar2, sRaise0, sBreak, sCont, sRetN, eOp2, eOp1, eOpN, eVar, eC, eIf, eAnd, eOr, eNot, DL.tB, tNot, tAnd, tOr, aCons, aNil, eCall, eSl, oNone, oSome, eChain, Rs.bind_ok, Rs.bind_err, rs1_some, List.getElem?_cons_zero, List.getElem?_cons_succ, List.set_cons_zero, List.set_cons_succ, Bool.not_true, Bool.not_false, Bool.false_eq_true, if_true, if_false, k2])
      have hlen : ((nd f).foldl (fun a x => gath nd n x a) F).length < sizeLine := by
        have := gath_len nd_lt (n + 1) f F nd_sum
        rw [e, List.length_append] at this
        have h1 : ([f] : List Flt).length = 1 := rfl
        omega
      refine runB_nx (δ := [.val (enc f), .val .st, x']) (ds := [enc f, .st]) ?_
      show g_gathered (f_gathered n) [.val (enc f), .val .st, .emp] (accO ω F) = _
      refine (sSeq_run ((sIf_f k1).trans rfl)).trans ((sSeq_run ((sFor_run k3).trans q)).trans ?_)
      have ea : (accO ω ((nd f).foldl (fun a x => gath nd n x a) F)).acc = ((nd f).foldl (fun a x => gath nd n x a) F).map enc := rfl
      unfold sAppA
      simp only [eVar, List.getElem?_cons_zero, List.getElem?_cons_succ, Rs.bind_ok, ea, List.length_map, hlen, (pure_enc f).1, and_self, if_true]
      unfold accO
      rw [List.map_append]
      rfl
/-! ### are they filters -/
def areF (d : D) : Bool := match d with
  | .tup ds => decide (1 ≤ ds.length) && decide (ds.length ≤ 12) && ds.all isF
  | _ => false
theorem allF_run {ds : List D} {ω : Om} {δ : Sls} (h : ∀ d ∈ ds, Gd d) (h0 : δ[0]? = some (.val (.tup ds))) (hw : wipeD δ [1] = δ) (hl : 1 < δ.length) : (eOpN gAll (aCons (eComp (iAny (eVar 0)) (gdName 1) tTrue (eCall f_is_filter (aCons (eVar 1) aNil)) [1]) aNil)) δ ω = .ok (.bl (ds.all isF)) ω := by
  have e3 : compF (gdName 1) tTrue (eCall f_is_filter (aCons (eVar 1) aNil)) δ (ds.map id) ω = .ok (ds.map fun d => .bl (isF d)) ω := by
    refine compF_map id (fun d => D.bl (isF d)) ds fun d hd => ⟨δ.set 1 (.val d), rfl, ?_⟩
    have k := is_filter_run (ω := ω) (h d hd)
    have e : (δ.set 1 (.val d))[1]? = some (.val d) := List.getElem?_set_self hl
    simp only [sSeq, sIf, sSet, sRet, sNext, sExpr, sFor, sPar2, sRaise0, sBreak, sCont, sRetN, eOp2, eOp1, eOpN, eVar, eC, eIf, eAnd, eOr, eNot, DL.tB, tNot, tAnd, tOr, aCons, aNil, eCall, eSl, oNone, oSome, eChain, Rs.bind_ok, Rs.bind_err, rs1_some, List.getElem?_cons_zero, List.getElem?_cons_succ, List.set_cons_zero, List.set_cons_succ, Bool.not_true, Bool.not_false, Bool.false_eq_true, if_true, if_false, e, k]
  rw [List.map_id] at e3
  have e4 := eComp_run (vs := [1]) (δ := δ) (iAny_t (fa := eVar 0) (δ := δ) (ω := ω) (ω1 := ω) (ds := ds) (by simp only [eVar, h0])) (by rw [hw]; exact e3)
  have e6 := gAll_map isF ds
  simp only [eOpN, aCons, aNil, Rs.bind_ok, e4, e6, rs1_some]
theorem are_filters_run {d : D} {ω : Om} (h : Gd d) : f_are_filters [d] ω = .ok (.bl (areF d)) ω := by
  refine runB_eq (ds := [d]) ?_
  show g_are_filters [.val d, .emp] ω = _
  have k1 := isc_tup (good_ok h)
  cases ht : isTup d with
  | false =>
    rw [ht] at k1
    have e : areF d = false := by cases d <;> first | rfl | cases ht
    simp only [g_are_filters, sSeq, sIf, sSet, sRet, sNext, sExpr, sFor, sPar2, sRaise0, sBreak, sCont, sRetN, eOp2, eOp1, eOpN, eVar, eC, eIf, eAnd, eOr, eNot, DL.tB, tNot, tAnd, tOr, aCons, aNil, eCall, eSl, oNone, oSome, eChain, Rs.bind_ok, Rs.bind_err, rs1_some, List.getElem?_cons_zero, List.getElem?_cons_succ, List.set_cons_zero, List.set_cons_succ, Bool.not_true, Bool.not_false, Bool.false_eq_true, if_true, if_false, k1, e]
  | true =>
    rw [ht] at k1
    cases d <;> first | (cases ht; done) | skip
    rename_i ds
    have k2 : gLeA (.int 1) (.int (ds.length : Nat)) = some (.bl (decide (1 ≤ ds.length))) := gLeA_nat 1 _
    have k3 : gLeA (.int (ds.length : Nat)) (.int 12) = some (.bl (decide (ds.length ≤ 12))) := gLeA_nat _ 12
    have k4 := allF_run (ω := ω) (δ := [.val (.tup ds), .emp]) (good_tup.mp h).2 rfl rfl (by show 1 < 2; decide)
    have e : areF (.tup ds) = (decide (1 ≤ ds.length) && decide (ds.length ≤ 12) && ds.all isF) := rfl
    rw [e]
    generalize decide (1 ≤ ds.length) = b1 at *
    generalize decide (ds.length ≤ 12) = b2 at *
    cases b1 with
    | false => simp only [g_are_filters, sSeq, sIf, sSet, sRet, sNext, sExpr, sFor, sPar2, sRaise0, sBreak, sCont, sRetN, eOp2, eOp1, eOpN, eVar, eC, eIf, eAnd, eOr, eNot, DL.tB, tNot, tAnd, tOr, aCons, aNil, eCall, eSl, oNone, oSome, eChain, Rs.bind_ok, Rs.bind_err, rs1_some, List.getElem?_cons_zero, List.getElem?_cons_succ, List.set_cons_zero, List.set_cons_succ, Bool.not_true, Bool.not_false, Bool.false_eq_true, if_true, if_false, k1, gLen_t, k2, Bool.false_and]
    | true =>
      cases b2 with
      | false => simp only [g_are_filters, sSeq, sIf, sSet, sRet, sNext, sExpr, sFor, sPar2, sRaise0, sBreak, sCont, sRetN, eOp2, eOp1, eOpN, eVar, eC, eIf, eAnd, eOr, eNot, DL.tB, tNot, tAnd, tOr, aCons, aNil, eCall, eSl, oNone, oSome, eChain, Rs.bind_ok, Rs.bind_err, rs1_some, List.getElem?_cons_zero, List.getElem?_cons_succ, List.set_cons_zero, List.set_cons_succ, Bool.not_true, Bool.not_false, Bool.false_eq_true, if_true, if_false, k1, gLen_t, k2, k3, Bool.false_and, Bool.and_false]
      | true =>
        rw [Bool.true_and, Bool.true_and]
        refine sRet_run ?_
        unfold eAnd
        have c1 : (DL.tB (eOpN (gIsc kb) (aCons (eVar 0) (aCons (eC (.ty "tuple")) aNil)))) [.val (.tup ds), .emp] ω = .ok true ω := by simp only [sSeq, sIf, sSet, sRet, sNext, sExpr, sFor, sPar2, sRaise0, sBreak, sCont, sRetN, eOp2, eOp1, eOpN, eVar, eC, eIf, eAnd, eOr, eNot, DL.tB, tNot, tAnd, tOr, aCons, aNil, eCall, eSl, oNone, oSome, eChain, Rs.bind_ok, Rs.bind_err, rs1_some, List.getElem?_cons_zero, List.getElem?_cons_succ, List.set_cons_zero, List.set_cons_succ, Bool.not_true, Bool.not_false, Bool.false_eq_true, if_true, if_false, k1]
        have c2 : (DL.tB (eChain gLeA gLeA (eC (.int 1)) (eOpN gLen (aCons (eVar 0) aNil)) (eC (.int 12)))) [.val (.tup ds), .emp] ω = .ok true ω := by simp only [sSeq, sIf, sSet, sRet, sNext, sExpr, sFor, sPar2, sRaise0, sBreak, sCont, sRetN, eOp2, eOp1, eOpN, eVar, eC, eIf, eAnd, eOr, eNot, DL.tB, tNot, tAnd, tOr, aCons, aNil, eCall, eSl, oNone, oSome, eChain, Rs.bind_ok, Rs.bind_err, rs1_some, List.getElem?_cons_zero, List.getElem?_cons_succ, List.set_cons_zero, List.set_cons_succ, Bool.not_true, Bool.not_false, Bool.false_eq_true, if_true, if_false, gLen_t, k2, k3]
        rw [c1, Rs.bind_ok, if_pos rfl, c2, Rs.bind_ok, if_pos rfl]
        exact k4
theorem all_inv : ∀ {ds : List D}, ds.all isF = true → ∃ fs : List Flt, ds = fs.map enc ∧ ∀ f ∈ fs, FF f
  | [], _ => ⟨[], rfl, fun f h => nomatch h⟩
  | d :: r, h => by
    rw [List.all_cons, Bool.and_eq_true] at h
    obtain ⟨f, rfl, h1⟩ := isF_inv h.1
    obtain ⟨fs, rfl, h2⟩ := all_inv h.2
    exact ⟨f :: fs, rfl, fun g hg => by
      rcases List.mem_cons.mp hg with rfl | hg
      · exact h1
      · exact h2 g hg⟩
def gathA (fs : List Flt) : List Flt := fs.foldl (fun a f => gath nd 64 f a) []
theorem all_enc {fs : List Flt} (h : ∀ f ∈ fs, FF f) : (fs.map enc).all isF = true := by
  rw [List.all_map]
  exact List.all_eq_true.mpr fun f hf => isF_enc (h f hf)
theorem foldl_gath (l : List Flt) : ∀ F : List Flt, (∀ f ∈ l, FF f) → (∀ x ∈ F, FF x) →
    (∀ x ∈ l.foldl (fun a f => gath nd 64 f a) F, FF x) ∧ (l.foldl (fun a f => gath nd 64 f a) F).length ≤ F.length + 60 * l.length ∧ (isDem nd [] F = true → isDem nd [] (l.foldl (fun a f => gath nd 64 f a) F) = true) ∧ (∀ x ∈ F, x ∈ l.foldl (fun a f => gath nd 64 f a) F) ∧ (∀ x ∈ l, x ∈ l.foldl (fun a f => gath nd 64 f a) F) := by
  induction l with
  | nil => exact fun F _ hF => ⟨hF, by simp, id, fun x h => h, fun x h => nomatch h⟩
  | cons y r ih =>
    intro F hl hF
    have hy := hl y (by simp)
    have p := gath_p nd_lt 64 y F (by have := hy.2; omega)
    have q := gath_all nd_lt FF (fun d hd => FF_nd hd) 64 y F hy hF
    have ln := gath_len nd_lt 64 y F nd_sum
    obtain ⟨i1, i2, i3, i4, i5⟩ := ih (gath nd 64 y F) (fun x hx => hl x (by simp [hx])) q
    have := hy.2
    refine ⟨i1, ?_, fun h => i3 (p.dem h), fun x h => i4 x (p.sub x h), fun x h => ?_⟩
    · rw [List.length_cons]
      show (r.foldl (fun a f => gath nd 64 f a) (gath nd 64 y F)).length ≤ _
      omega
    · rcases List.mem_cons.mp h with rfl | h
      · exact i4 _ p.mem
      · exact i5 x h
theorem lGath_run {v : Sl} {ω : Om} : ∀ (l : List Flt) (F : List Flt) (x : Sl), (∀ f ∈ l, FF f) → (∀ x ∈ F, FF x) → F.length + 60 * l.length < 10000 →
    ∃ x', loopF (gdName 2) (sExpr (eCall (f_gathered 64) (aCons (eVar 2) (aCons (eVar 1) aNil)))) (l.map enc) [v, .val .st, x] (accO ω F) = .ok (.nx [v, .val .st, x']) (accO ω (l.foldl (fun a f => gath nd 64 f a) F)) := by
  intro l
  induction l with
  | nil => exact fun F x _ _ _ => ⟨x, rfl⟩
  | cons y r ih =>
    intro F x hl hF hn
    have hy := hl y (by simp)
    rw [List.length_cons] at hn
    have := hy.2
    have g1 := gathered_run 64 y F ω (by omega) hy.1 (fun x hx => (hF x hx).1) (by omega)
    have q := gath_all nd_lt FF (fun d hd => FF_nd hd) 64 y F hy hF
    have ln := gath_len nd_lt 64 y F nd_sum
    obtain ⟨x', q⟩ := ih (gath nd 64 y F) (.val (enc y)) (fun x hx => hl x (by simp [hx])) q (by omega)
    refine ⟨x', ?_⟩
    rw [List.map_cons, List.foldl_cons, ← q]
    refine loopF_step (δ1 := [v, .val .st, .val (enc y)]) rfl ?_
    simp only [sSeq, sIf, sSet, sRet, sNext, sExpr, sFor, sPar2, sRaise0, sBreak, sCont, sRetN, eOp2, eOp1, eOpN, eVar, eC, eIf, eAnd, eOr, eNot, DL.tB, tNot, tAnd, tOr, aCons, aNil, eCall, eSl, oNone, oSome, eChain, Rs.bind_ok, Rs.bind_err, rs1_some, List.getElem?_cons_zero, List.getElem?_cons_succ, List.set_cons_zero, List.set_cons_succ, Bool.not_true, Bool.not_false, Bool.false_eq_true, if_true, if_false, g1]
theorem demands_of_run {d : D} (h : Gd d) (ω : Om) : (∃ fs, d = .tup (fs.map enc) ∧ (∀ f ∈ fs, FF f) ∧ 1 ≤ fs.length ∧ fs.length ≤ 12 ∧ f_demands_of [d] ω = .ok (.tup ((gathA fs).map enc)) ω) ∨ (areF d = false ∧ f_demands_of [d] ω = .err ("BadFilter", []) ω) := by
  have k1 := are_filters_run (ω := ω) h
  cases hf : areF d with
  | false =>
    rw [hf] at k1
    refine .inr ⟨rfl, runB_err (ds := [d]) ?_⟩
    show g_demands_of [.val d, .emp, .emp] ω = _
    refine sSeq_err ?_
    simp only [sSeq, sIf, sSet, sRet, sNext, sExpr, sFor, sPar2, sRaise0, sBreak, sCont, sRetN, eOp2, eOp1, eOpN, eVar, eC, eIf, eAnd, eOr, eNot, DL.tB, tNot, tAnd, tOr, aCons, aNil, eCall, eSl, oNone, oSome, eChain, Rs.bind_ok, Rs.bind_err, rs1_some, List.getElem?_cons_zero, List.getElem?_cons_succ, List.set_cons_zero, List.set_cons_succ, Bool.not_true, Bool.not_false, Bool.false_eq_true, if_true, if_false, k1]
  | true =>
    rw [hf] at k1
    have hf' := hf
    unfold areF at hf'
    split at hf'
    · rename_i ds
      simp only [Bool.and_eq_true, decide_eq_true_eq] at hf'
      obtain ⟨fs, rfl, hfs⟩ := all_inv hf'.2
      have l1 : 1 ≤ fs.length := by simpa using hf'.1.1
      have l2 : fs.length ≤ 12 := by simpa using hf'.1.2
      refine .inl ⟨fs, rfl, hfs, l1, l2, runB_eq (ds := [.tup (fs.map enc)]) ?_⟩
      show g_demands_of [.val (.tup (fs.map enc)), .emp, .emp] ω = _
      have c1 : (sIf (tNot (DL.tB (eCall f_are_filters (aCons (eVar 0) aNil)))) (sRaise0 "BadFilter") sNext) [.val (.tup (fs.map enc)), .emp, .emp] ω = .ok (.nx [.val (.tup (fs.map enc)), .emp, .emp]) ω := by simp only [sSeq, sIf, sSet, sRet, sNext, sExpr, sFor, sPar2, sRaise0, sBreak, sCont, sRetN, eOp2, eOp1, eOpN, eVar, eC, eIf, eAnd, eOr, eNot, DL.tB, tNot, tAnd, tOr, aCons, aNil, eCall, eSl, oNone, oSome, eChain, Rs.bind_ok, Rs.bind_err, rs1_some, List.getElem?_cons_zero, List.getElem?_cons_succ, List.set_cons_zero, List.set_cons_succ, Bool.not_true, Bool.not_false, Bool.false_eq_true, if_true, if_false, k1]
      refine (sSeq_run c1).trans ?_
      have hp : ([.val (.tup (fs.map enc)), .emp, .emp] : Sls).all pureS = true := by
        show (pureD.pureL (fs.map enc) && (true && (true && true))) = true
        rw [pureL_enc]
        rfl
      obtain ⟨x', q⟩ := lGath_run (v := .val (.tup (fs.map enc))) (ω := ω) fs [] .emp hfs (fun x h => nomatch h) (by have : ([] : List Flt).length = 0 := rfl; omega)
      have ei : iAny (eVar 0) [.val (.tup (fs.map enc)), .val .st, .emp] (accO ω []) = .ok (fs.map enc) (accO ω []) := iAny_t rfl
      have body : (sSeq (sFor (iAny (eVar 0)) (gdName 2) (sExpr (eCall (f_gathered 64) (aCons (eVar 2) (aCons (eVar 1) aNil))))) (sRet (eTupA 1))) [.val (.tup (fs.map enc)), .val .st, .emp] (accO ω []) = .ok (.rt (.tup ((gathA fs).map enc))) (accO ω (gathA fs)) := (sSeq_run ((sFor_run ei).trans q)).trans rfl
      have hpt : pureD (.tup ((gathA fs).map enc)) = true := pureL_enc _
      unfold sAcc
      rw [if_pos ⟨hp, by show 1 < 3; decide⟩]
      show (match (sSeq (sFor (iAny (eVar 0)) (gdName 2) (sExpr (eCall (f_gathered 64) (aCons (eVar 2) (aCons (eVar 1) aNil))))) (sRet (eTupA 1))) [.val (.tup (fs.map enc)), .val .st, .emp] (accO ω []) with
        | .ok (.rt d) _ => if pureD d = true then Rs.ok (Fl.rt d) ω else .bad
        | _ => .bad) = _
      rw [body]
      show (if pureD (.tup ((gathA fs).map enc)) = true then Rs.ok (Fl.rt (.tup ((gathA fs).map enc))) ω else .bad) = _
      rw [if_pos hpt]
    · cases hf'
end K24

namespace K24
open PySem DL
/-! ### the law's demands -/
def encS (p : Flt × Bool) : D := .tup [enc p.1, .bl p.2]
abbrev stk (S : List (Flt × Bool)) : List D := S.reverse.map encS
abbrev wBody : EvS := sSeq (sPopT 3 (gdTup2 4 5)) (sSeq (sIf (tPeek 1 (DL.tB (eOp2 (gInA false) (eVar 4) (eVar 1)))) sCont sNext) (sIf (DL.tB (eVar 5)) (sApp 1 (eVar 4)) (sSeq (sApp 3 (eOpN gTup (aCons (eVar 4) (aCons (eC (.bl true)) aNil)))) (sExt 3 (eComp (iAny (eRevL (eCall f_w_fp_needs (aCons (eVar 4) aNil)))) (gdName 6) tTrue (eOpN gTup (aCons (eVar 6) (aCons (eC (.bl false)) aNil))) [6])))))
abbrev wTest : EvT := tPeek 3 (DL.tB (eOp2 gNeX (eVar 3) (eOpN gLst aNil)))
section
variable {v s2 s4 s5 s6 : Sl} {ω : Om}
theorem wTest_run (S : List (Flt × Bool)) (F : List D) : wTest [v, .own F, s2, .own (stk S), s4, s5, s6] ω = .ok (!S.isEmpty) ω := by
  have k := gNeX_l0 (stk S)
  have e : (stk S).isEmpty = S.isEmpty := by
    unfold stk
    rw [List.isEmpty_map, List.isEmpty_reverse]
  rw [e] at k
  unfold wTest tPeek
  simp only [sSeq, sIf, sSet, sRet, sNext, sExpr, sFor, sPar2, sRaise0, sBreak, sCont, sRetN, eOp2, eOp1, eOpN, eVar, eC, eIf, eAnd, eOr, eNot, DL.tB, tNot, tAnd, tOr, aCons, aNil, eCall, eSl, oNone, oSome, eChain, Rs.bind_ok, Rs.bind_err, rs1_some, List.getElem?_cons_zero, List.getElem?_cons_succ, List.set_cons_zero, List.set_cons_succ, Bool.not_true, Bool.not_false, Bool.false_eq_true, if_true, if_false, gLst_nil, k, noErr]
theorem wBody_run {h : Flt} {o : Bool} {S : List (Flt × Bool)} {F : List Flt} (hh : FP h) (hF : ∀ x ∈ F, FP x) (hl : F.length < 10000) (hs : S.length < 10000) :
    ∃ s4' s5' s6' fl, wBody [v, .own (F.map enc), s2, .own (stk ((h, o) :: S)), s4, s5, s6] ω = .ok fl ω ∧
      ((h ∈ F ∧ fl = .ct [v, .own (F.map enc), s2, .own (stk S), s4', s5', s6']) ∨
       (h ∉ F ∧ o = true ∧ fl = .nx [v, .own ((F ++ [h]).map enc), s2, .own (stk S), s4', s5', s6']) ∨
       (h ∉ F ∧ o = false ∧ fl = .nx [v, .own (F.map enc), s2, .own (stk ((nd h).map (fun x => (x, false)) ++ (h, true) :: S)), s4', s5', s6'])) := by
  have hz : sizeLine = 16777216 := rfl
  have e1 : stk ((h, o) :: S) = stk S ++ [encS (h, o)] := by
    unfold stk
    rw [List.reverse_cons, List.map_append]
    rfl
  have p1 : sPopT 3 (gdTup2 4 5) [v, .own (F.map enc), s2, .own (stk ((h, o) :: S)), s4, s5, s6] ω = .ok (.nx [v, .own (F.map enc), s2, .own (stk S), .val (enc h), .val (.bl o), s6]) ω := by
    rw [e1]
    unfold sPopT
    simp only [List.getElem?_cons_zero, List.getElem?_cons_succ, List.getLast?_append, List.getLast?_singleton, Option.some_or, List.dropLast_concat, List.set_cons_zero, List.set_cons_succ]
    rfl
  have p2 : (tPeek 1 (DL.tB (eOp2 (gInA false) (eVar 4) (eVar 1)))) [v, .own (F.map enc), s2, .own (stk S), .val (enc h), .val (.bl o), s6] ω = .ok (decide (h ∈ F)) ω := by
    have k := fE.inL (neg := false) hh hF
    rw [Bool.false_xor] at k
    unfold tPeek
    simp only [sSeq, sIf, sSet, sRet, sNext, sExpr, sFor, sPar2, sRaise0, sBreak, sCont, sRetN, eOp2, eOp1, eOpN, eVar, eC, eIf, eAnd, eOr, eNot, DL.tB, tNot, tAnd, tOr, aCons, aNil, eCall, eSl, oNone, oSome, eChain, Rs.bind_ok, Rs.bind_err, rs1_some, List.getElem?_cons_zero, List.getElem?_cons_succ, List.set_cons_zero, List.set_cons_succ, Bool.not_true, Bool.not_false, Bool.false_eq_true, if_true, if_false, k, noErr]
  unfold wBody
  rw [sSeq_run p1]
  by_cases hm : h ∈ F
  · rw [decide_eq_true hm] at p2
    refine ⟨.val (enc h), .val (.bl o), s6, _, ?_, .inl ⟨hm, rfl⟩⟩
    unfold sSeq
    rw [sIf_t p2]
    rfl
  · rw [decide_eq_false hm] at p2
    rw [sSeq_run ((sIf_f p2).trans rfl)]
    cases o with
    | true =>
      refine ⟨.val (enc h), .val (.bl true), s6, _, ?_, .inr (.inl ⟨hm, rfl, rfl⟩)⟩
      rw [sIf_t (ω1 := ω) rfl]
      unfold sApp
      simp only [sSeq, sIf, sSet, sRet, sNext, sExpr, sFor, sPar2, sRaise0, sBreak, sCont, sRetN, eOp2, eOp1, eOpN, eVar, eC, eIf, eAnd, eOr, eNot, DL.tB, tNot, tAnd, tOr, aCons, aNil, eCall, eSl, oNone, oSome, eChain, Rs.bind_ok, Rs.bind_err, rs1_some, List.getElem?_cons_zero, List.getElem?_cons_succ, List.set_cons_zero, List.set_cons_succ, Bool.not_true, Bool.not_false, Bool.false_eq_true, if_true, if_false, List.length_map, show F.length < sizeLine by omega, List.map_append, List.map_cons, List.map_nil]
    | false =>
      refine ⟨.val (enc h), .val (.bl false), s6, _, ?_, .inr (.inr ⟨hm, rfl, rfl⟩)⟩
      rw [sIf_f (ω1 := ω) rfl]
      have lS : (stk S).length = S.length := by unfold stk; rw [List.length_map, List.length_reverse]
      have q1 : sApp 3 (eOpN gTup (aCons (eVar 4) (aCons (eC (.bl true)) aNil))) [v, .own (F.map enc), s2, .own (stk S), .val (enc h), .val (.bl false), s6] ω = .ok (.nx [v, .own (F.map enc), s2, .own (stk S ++ [encS (h, true)]), .val (enc h), .val (.bl false), s6]) ω := by
        unfold sApp
        simp only [sSeq, sIf, sSet, sRet, sNext, sExpr, sFor, sPar2, sRaise0, sBreak, sCont, sRetN, eOp2, eOp1, eOpN, eVar, eC, eIf, eAnd, eOr, eNot, DL.tB, tNot, tAnd, tOr, aCons, aNil, eCall, eSl, oNone, oSome, eChain, Rs.bind_ok, Rs.bind_err, rs1_some, List.getElem?_cons_zero, List.getElem?_cons_succ, List.set_cons_zero, List.set_cons_succ, Bool.not_true, Bool.not_false, Bool.false_eq_true, if_true, if_false, two_tup, lS, show S.length < sizeLine by omega]
        rfl
      rw [sSeq_run q1]
      have k1 := (needs_run h hh.1 ω).2
      have k2 : iAny (eRevL (eCall f_w_fp_needs (aCons (eVar 4) aNil))) [v, .own (F.map enc), s2, .own (stk S ++ [encS (h, true)]), .val (enc h), .val (.bl false), s6] ω = .ok ((nd h).reverse.map enc) ω := by
        refine iAny_l ?_
        simp only [eRevL, sSeq, sIf, sSet, sRet, sNext, sExpr, sFor, sPar2, sRaise0, sBreak, sCont, sRetN, eOp2, eOp1, eOpN, eVar, eC, eIf, eAnd, eOr, eNot, DL.tB, tNot, tAnd, tOr, aCons, aNil, eCall, eSl, oNone, oSome, eChain, Rs.bind_ok, Rs.bind_err, rs1_some, List.getElem?_cons_zero, List.getElem?_cons_succ, List.set_cons_zero, List.set_cons_succ, Bool.not_true, Bool.not_false, Bool.false_eq_true, if_true, if_false, k1, List.map_reverse]
      have k3 : compF (gdName 6) tTrue (eOpN gTup (aCons (eVar 6) (aCons (eC (.bl false)) aNil))) [v, .own (F.map enc), s2, .own (stk S ++ [encS (h, true)]), .val (enc h), .val (.bl false), .emp] ((nd h).reverse.map enc) ω = .ok ((nd h).reverse.map fun x => encS (x, false)) ω := by
        refine compF_map enc (fun x => encS (x, false)) (nd h).reverse fun c _ => ⟨[v, .own (F.map enc), s2, .own (stk S ++ [encS (h, true)]), .val (enc h), .val (.bl false), .val (enc c)], rfl, ?_⟩
        simp only [sSeq, sIf, sSet, sRet, sNext, sExpr, sFor, sPar2, sRaise0, sBreak, sCont, sRetN, eOp2, eOp1, eOpN, eVar, eC, eIf, eAnd, eOr, eNot, DL.tB, tNot, tAnd, tOr, aCons, aNil, eCall, eSl, oNone, oSome, eChain, Rs.bind_ok, Rs.bind_err, rs1_some, List.getElem?_cons_zero, List.getElem?_cons_succ, List.set_cons_zero, List.set_cons_succ, Bool.not_true, Bool.not_false, Bool.false_eq_true, if_true, if_false, two_tup]
        rfl
      have k4 := eComp_run (vs := [6]) k2 k3
      have ln : (nd h).length ≤ 2 := by cases h <;> simp [nd]
      unfold sExt
      simp only [List.getElem?_cons_zero, List.getElem?_cons_succ, k4, Rs.bind_ok, List.length_append, List.length_map, List.length_reverse, lS, List.length_singleton, show S.length + 1 + (nd h).length ≤ sizeLine by omega, if_true, List.set_cons_zero, List.set_cons_succ]
      have ee : stk S ++ [encS (h, true)] ++ (nd h).reverse.map (fun x => encS (x, false)) = stk ((nd h).map (fun x => (x, false)) ++ (h, true) :: S) := by
        unfold stk
        rw [List.reverse_append, List.reverse_cons, List.map_append, List.map_append, ← List.map_reverse, List.map_map]
        rfl
      rw [ee]
end
/-- the law's loop does what loopS does -/
theorem while_run {v s2 : Sl} {ω : Om} : ∀ (n : Nat) (S : List (Flt × Bool)) (F R : List Flt) (s4 s5 s6 : Sl), (∀ p ∈ S, FP p.1) → (∀ x ∈ F, FP x) → F.length + n < 5000 → S.length + 2 * n < 5000 → loopS nd n S F = some R →
    ∃ s4' s5' s6', whileF n wTest wBody [v, .own (F.map enc), s2, .own (stk S), s4, s5, s6] ω = .ok (.nx [v, .own (R.map enc), s2, .own [], s4', s5', s6']) ω
  | 0, _, _, _, _, _, _, _, _, _, _, h => by cases h
  | n + 1, [], F, R, s4, s5, s6, _, _, _, _, h => by
    cases h
    exact ⟨s4, s5, s6, whileF_stop (wTest_run [] _)⟩
  | n + 1, (h, o) :: S, F, R, s4, s5, s6, hS, hF, hl, hl2, e => by
    have t := wTest_run (v := v) (s2 := s2) (s4 := s4) (s5 := s5) (s6 := s6) (ω := ω) ((h, o) :: S) (F.map enc)
    rw [List.length_cons] at hl2
    have hh := hS (h, o) (by simp)
    have hS' : ∀ p ∈ S, FP p.1 := fun p hp => hS p (by simp [hp])
    obtain ⟨s4', s5', s6', fl, b, q⟩ := wBody_run (v := v) (s2 := s2) (s4 := s4) (s5 := s5) (s6 := s6) (ω := ω) (o := o) (S := S) hh hF (by omega) (by omega)
    have e' : (if h ∈ F then loopS nd n S F else if o = true then loopS nd n S (F ++ [h]) else loopS nd n ((nd h).map (fun x => (x, false)) ++ (h, true) :: S) F) = some R := e
    rcases q with ⟨q1, rfl⟩ | ⟨q1, rfl, rfl⟩ | ⟨q1, rfl, rfl⟩
    · rw [if_pos q1] at e'
      obtain ⟨t4, t5, t6, z⟩ := while_run n S F R s4' s5' s6' hS' hF (by omega) (by omega) e'
      exact ⟨t4, t5, t6, (whileF_ct (δ2 := []) t b).trans z⟩
    · rw [if_neg q1, if_pos rfl] at e'
      obtain ⟨t4, t5, t6, z⟩ := while_run n S (F ++ [h]) R s4' s5' s6' hS' (fun x hx => by
        rcases List.mem_append.mp hx with hx | hx
        · exact hF x hx
        · rw [List.mem_singleton.mp hx]; exact hh) (by rw [List.length_append, List.length_singleton]; omega) (by omega) e'
      exact ⟨t4, t5, t6, (whileF_step (δ2 := []) t b).trans z⟩
    · rw [if_neg q1, if_neg (by decide)] at e'
      have ln : (nd h).length ≤ 2 := by cases h <;> simp [nd]
      obtain ⟨t4, t5, t6, z⟩ := while_run n ((nd h).map (fun x => (x, false)) ++ (h, true) :: S) F R s4' s5' s6' (fun p hp => by
        rcases List.mem_append.mp hp with hp | hp
        · obtain ⟨x, hx, rfl⟩ := List.mem_map.mp hp
          exact FP_nd hh x hx
        · rcases List.mem_cons.mp hp with rfl | hp
          · exact hh
          · exact hS' p hp) hF (by omega) (by rw [List.length_append, List.length_map, List.length_cons]; omega) e'
      exact ⟨t4, t5, t6, (whileF_step (δ2 := []) t b).trans z⟩
abbrev dBody : EvS := sSeq (sNew 3 (aCons (eOpN gTup (aCons (eVar 2) (aCons (eC (.bl false)) aNil))) aNil)) (whileF fuelW wTest wBody)
theorem dBody_run {v s3 s4 s5 s6 : Sl} {ω : Om} {f : Flt} {F : List Flt} (hf : FF f) (hF : ∀ x ∈ F, FF x) (hl : F.length < 1000) : ∃ s4' s5' s6', dBody [v, .own (F.map enc), .val (enc f), s3, s4, s5, s6] ω = .ok (.nx [v, .own ((gath nd 64 f F).map enc), .val (enc f), .own [], s4', s5', s6']) ω := by
  have := hf.2
  have q1 : sNew 3 (aCons (eOpN gTup (aCons (eVar 2) (aCons (eC (.bl false)) aNil))) aNil) [v, .own (F.map enc), .val (enc f), s3, s4, s5, s6] ω = .ok (.nx [v, .own (F.map enc), .val (enc f), .own (stk [(f, false)]), s4, s5, s6]) ω := by
    unfold sNew
    simp only [sSeq, sIf, sSet, sRet, sNext, sExpr, sFor, sPar2, sRaise0, sBreak, sCont, sRetN, eOp2, eOp1, eOpN, eVar, eC, eIf, eAnd, eOr, eNot, DL.tB, tNot, tAnd, tOr, aCons, aNil, eCall, eSl, oNone, oSome, eChain, Rs.bind_ok, Rs.bind_err, rs1_some, List.getElem?_cons_zero, List.getElem?_cons_succ, List.set_cons_zero, List.set_cons_succ, Bool.not_true, Bool.not_false, Bool.false_eq_true, if_true, if_false, two_tup, List.length_cons, List.length_nil, show (0 + 1 ≤ sizeLine ∧ 3 < 0 + 1 + 1 + 1 + 1 + 1 + 1 + 1) from ⟨by decide, by decide⟩, and_self]
    rfl
  obtain ⟨k, k1, k2⟩ := loop_gath nd_lt nd_sum 64 f (by omega) [] F
  have e : loopS nd fuelW [(f, false)] F = some (gath nd 64 f F) := by
    have : fuelW = (1000 - k) + k := by show 1000 = _; omega
    rw [this, k2]
    obtain ⟨m, hm⟩ : ∃ m, 1000 - k = m + 1 := ⟨999 - k, by omega⟩
    rw [hm]
    rfl
  obtain ⟨t4, t5, t6, z⟩ := while_run (v := v) (s2 := .val (enc f)) (ω := ω) fuelW [(f, false)] F _ s4 s5 s6 (fun p hp => by rw [List.mem_singleton.mp hp]; exact hf.1) (fun x hx => (hF x hx).1) (by show _ + 1000 < _; omega) (by show 1 + 2 * 1000 < _; decide) e
  exact ⟨t4, t5, t6, (sSeq_run q1).trans z⟩
theorem lDem_run {v : Sl} {ω : Om} : ∀ (l : List Flt) (F : List Flt) (s2 s3 s4 s5 s6 : Sl), (∀ f ∈ l, FF f) → (∀ x ∈ F, FF x) → F.length + 60 * l.length < 1000 →
    ∃ s2' s3' s4' s5' s6', loopF (gdName 2) dBody (l.map enc) [v, .own (F.map enc), s2, s3, s4, s5, s6] ω = .ok (.nx [v, .own ((l.foldl (fun a f => gath nd 64 f a) F).map enc), s2', s3', s4', s5', s6']) ω := by
  intro l
  induction l with
  | nil => exact fun F s2 s3 s4 s5 s6 _ _ _ => ⟨s2, s3, s4, s5, s6, rfl⟩
  | cons y r ih =>
    intro F s2 s3 s4 s5 s6 hl hF hn
    have hy := hl y (by simp)
    rw [List.length_cons] at hn
    have := hy.2
    obtain ⟨t4, t5, t6, b⟩ := dBody_run (v := v) (s3 := s3) (s4 := s4) (s5 := s5) (s6 := s6) (ω := ω) hy hF (by omega)
    have q := gath_all nd_lt FF (fun d hd => FF_nd hd) 64 y F hy hF
    have ln := gath_len nd_lt 64 y F nd_sum
    obtain ⟨u2, u3, u4, u5, u6, z⟩ := ih (gath nd 64 y F) (.val (enc y)) (.own []) t4 t5 t6 (fun x hx => hl x (by simp [hx])) q (by omega)
    refine ⟨u2, u3, u4, u5, u6, ?_⟩
    rw [List.map_cons, List.foldl_cons, ← z]
    exact loopF_step (δ1 := [v, .own (F.map enc), .val (enc y), s3, s4, s5, s6]) rfl b
theorem w_demands_run {fs : List Flt} (h : ∀ f ∈ fs, FF f) (hl : fs.length ≤ 12) (ω : Om) : f_w_fp_demands [.tup (fs.map enc)] ω = .ok (.tup ((gathA fs).map enc)) ω := by
  refine runB_eq (ds := [.tup (fs.map enc)]) ?_
  show g_w_fp_demands [.val (.tup (fs.map enc)), .emp, .emp, .emp, .emp, .emp, .emp] ω = _
  have q1 : sNew 1 aNil [.val (.tup (fs.map enc)), .emp, .emp, .emp, .emp, .emp, .emp] ω = .ok (.nx [.val (.tup (fs.map enc)), .own [], .emp, .emp, .emp, .emp, .emp]) ω := rfl
  obtain ⟨u2, u3, u4, u5, u6, z⟩ := lDem_run (v := .val (.tup (fs.map enc))) (ω := ω) fs [] .emp .emp .emp .emp .emp h (fun x h => nomatch h) (by have : ([] : List Flt).length = 0 := rfl; omega)
  have ei : iAny (eVar 0) [.val (.tup (fs.map enc)), .own [], .emp, .emp, .emp, .emp, .emp] ω = .ok (fs.map enc) ω := iAny_t rfl
  refine (sSeq_run q1).trans ((sSeq_run ((sFor_run ei).trans z)).trans ?_)
  rfl
/-! ### are they demands -/
theorem isDem_map : True := trivial
def demD (d : D) : Bool := match d with
  | .tup ds => decide (1 ≤ ds.length) && decide (ds.length ≤ 800) && ds.all isF
  | _ => false
abbrev iBody : EvS := sSeq (sSet 3 (eSl gSl (eVar 0) oNone (oSome (eVar 2)))) (sIf (tOr (DL.tB (eOp2 (gInA false) (eVar 1) (eVar 3))) (tNot (DL.tB (eOpN gAll (aCons (eComp (iAny (eCall f_needs_at (aCons (eVar 1) aNil))) (gdName 4) tTrue (eOp2 (gInA false) (eVar 4) (eVar 3)) [4]) aNil))))) (sRet (eC (.bl false))) sNext)
theorem iBody_run {fs ahead post : List Flt} {f : Flt} {s3 : Sl} {ω : Om} (h : fs = ahead ++ f :: post) (hfs : ∀ x ∈ fs, FP x) :
    iBody [.val (.tup (fs.map enc)), .val (enc f), .val (.int (ahead.length : Nat)), s3, .emp] ω = if (!decide (f ∈ ahead) && (nd f).all fun x => decide (x ∈ ahead)) = true then .ok (.nx [.val (.tup (fs.map enc)), .val (enc f), .val (.int (ahead.length : Nat)), .val (.tup (ahead.map enc)), .emp]) ω else .ok (.rt (.bl false)) ω := by
  have ha : ∀ x ∈ ahead, FP x := fun x hx => hfs x (by rw [h]; simp [hx])
  have hf : FP f := hfs f (by rw [h]; simp)
  have q1 : sSet 3 (eSl gSl (eVar 0) oNone (oSome (eVar 2))) [.val (.tup (fs.map enc)), .val (enc f), .val (.int (ahead.length : Nat)), s3, .emp] ω = .ok (.nx [.val (.tup (fs.map enc)), .val (enc f), .val (.int (ahead.length : Nat)), .val (.tup (ahead.map enc)), .emp]) ω := by
    have e : (fs.map enc).take ahead.length = ahead.map enc := by
      rw [h, List.map_append, show ahead.length = (ahead.map enc).length by simp, List.take_left']
      rfl
    simp only [sSeq, sIf, sSet, sRet, sNext, sExpr, sFor, sPar2, sRaise0, sBreak, sCont, sRetN, eOp2, eOp1, eOpN, eVar, eC, eIf, eAnd, eOr, eNot, DL.tB, tNot, tAnd, tOr, aCons, aNil, eCall, eSl, oNone, oSome, eChain, Rs.bind_ok, Rs.bind_err, rs1_some, List.getElem?_cons_zero, List.getElem?_cons_succ, List.set_cons_zero, List.set_cons_succ, Bool.not_true, Bool.not_false, Bool.false_eq_true, if_true, if_false, gSl_t, cutD_to, e]
  unfold iBody
  rw [sSeq_run q1]
  have k1 := fE.inT (neg := false) hf ha
  rw [Bool.false_xor] at k1
  have k2 := (needs_run f hf.1 ω).1
  have k3 : compF (gdName 4) tTrue (eOp2 (gInA false) (eVar 4) (eVar 3)) [.val (.tup (fs.map enc)), .val (enc f), .val (.int (ahead.length : Nat)), .val (.tup (ahead.map enc)), .emp] ((nd f).map enc) ω = .ok ((nd f).map fun x => D.bl (decide (x ∈ ahead))) ω := by
    refine compF_map enc (fun x => D.bl (decide (x ∈ ahead))) (nd f) fun c hc => ⟨[.val (.tup (fs.map enc)), .val (enc f), .val (.int (ahead.length : Nat)), .val (.tup (ahead.map enc)), .val (enc c)], rfl, ?_⟩
    have k := fE.inT (neg := false) (FP_nd hf c hc) ha
    rw [Bool.false_xor] at k
    simp only [sSeq, sIf, sSet, sRet, sNext, sExpr, sFor, sPar2, sRaise0, sBreak, sCont, sRetN, eOp2, eOp1, eOpN, eVar, eC, eIf, eAnd, eOr, eNot, DL.tB, tNot, tAnd, tOr, aCons, aNil, eCall, eSl, oNone, oSome, eChain, Rs.bind_ok, Rs.bind_err, rs1_some, List.getElem?_cons_zero, List.getElem?_cons_succ, List.set_cons_zero, List.set_cons_succ, Bool.not_true, Bool.not_false, Bool.false_eq_true, if_true, if_false, k]
  have k4 : iAny (eCall f_needs_at (aCons (eVar 1) aNil)) [.val (.tup (fs.map enc)), .val (enc f), .val (.int (ahead.length : Nat)), .val (.tup (ahead.map enc)), .emp] ω = .ok ((nd f).map enc) ω := iAny_t (by simp only [sSeq, sIf, sSet, sRet, sNext, sExpr, sFor, sPar2, sRaise0, sBreak, sCont, sRetN, eOp2, eOp1, eOpN, eVar, eC, eIf, eAnd, eOr, eNot, DL.tB, tNot, tAnd, tOr, aCons, aNil, eCall, eSl, oNone, oSome, eChain, Rs.bind_ok, Rs.bind_err, rs1_some, List.getElem?_cons_zero, List.getElem?_cons_succ, List.set_cons_zero, List.set_cons_succ, Bool.not_true, Bool.not_false, Bool.false_eq_true, if_true, if_false, k2])
  have k5 := eComp_run (vs := [4]) k4 k3
  have k6 := gAll_map (fun x => decide (x ∈ ahead)) (nd f)
  cases b1 : decide (f ∈ ahead) with
  | true =>
    rw [b1] at k1
    simp only [sSeq, sIf, sSet, sRet, sNext, sExpr, sFor, sPar2, sRaise0, sBreak, sCont, sRetN, eOp2, eOp1, eOpN, eVar, eC, eIf, eAnd, eOr, eNot, DL.tB, tNot, tAnd, tOr, aCons, aNil, eCall, eSl, oNone, oSome, eChain, Rs.bind_ok, Rs.bind_err, rs1_some, List.getElem?_cons_zero, List.getElem?_cons_succ, List.set_cons_zero, List.set_cons_succ, Bool.not_true, Bool.not_false, Bool.false_eq_true, if_true, if_false, k1, Bool.false_and]
  | false =>
    rw [b1] at k1
    cases b2 : (nd f).all fun x => decide (x ∈ ahead) with
    | true =>
      rw [b2] at k6
      simp only [sSeq, sIf, sSet, sRet, sNext, sExpr, sFor, sPar2, sRaise0, sBreak, sCont, sRetN, eOp2, eOp1, eOpN, eVar, eC, eIf, eAnd, eOr, eNot, DL.tB, tNot, tAnd, tOr, aCons, aNil, eCall, eSl, oNone, oSome, eChain, Rs.bind_ok, Rs.bind_err, rs1_some, List.getElem?_cons_zero, List.getElem?_cons_succ, List.set_cons_zero, List.set_cons_succ, Bool.not_true, Bool.not_false, Bool.false_eq_true, if_true, if_false, k1, k5, k6, Bool.true_and]
    | false =>
      rw [b2] at k6
      simp only [sSeq, sIf, sSet, sRet, sNext, sExpr, sFor, sPar2, sRaise0, sBreak, sCont, sRetN, eOp2, eOp1, eOpN, eVar, eC, eIf, eAnd, eOr, eNot, DL.tB, tNot, tAnd, tOr, aCons, aNil, eCall, eSl, oNone, oSome, eChain, Rs.bind_ok, Rs.bind_err, rs1_some, List.getElem?_cons_zero, List.getElem?_cons_succ, List.set_cons_zero, List.set_cons_succ, Bool.not_true, Bool.not_false, Bool.false_eq_true, if_true, if_false, k1, k5, k6, Bool.and_false]
theorem lIs_run {fs : List Flt} {ω : Om} (hfs : ∀ x ∈ fs, FP x) : ∀ (post ahead : List Flt) (s1 s2 s3 : Sl), fs = ahead ++ post →
    ∃ s1' s2' s3', loopF (gdTup2 2 1) iBody ((post.map enc).zipIdx ahead.length |>.map fun p => .tup [.int (p.2 : Nat), p.1]) [.val (.tup (fs.map enc)), s1, s2, s3, .emp] ω = if isDem nd ahead post = true then .ok (.nx [.val (.tup (fs.map enc)), s1', s2', s3', .emp]) ω else .ok (.rt (.bl false)) ω
  | [], ahead, s1, s2, s3, _ => ⟨s1, s2, s3, rfl⟩
  | f :: post, ahead, s1, s2, s3, h => by
    have b := iBody_run (s3 := s3) (ω := ω) h hfs
    have e : isDem nd ahead (f :: post) = ((!decide (f ∈ ahead) && (nd f).all fun x => decide (x ∈ ahead)) && isDem nd (ahead ++ [f]) post) := by
      show (!decide (f ∈ ahead) && ((nd f).all (fun x => decide (x ∈ ahead)) && isDem nd (ahead ++ [f]) post)) = _
      rw [Bool.and_assoc]
    rw [e, List.map_cons, List.zipIdx_cons, List.map_cons]
    cases c : (!decide (f ∈ ahead) && (nd f).all fun x => decide (x ∈ ahead)) with
    | true =>
      rw [c, if_pos rfl] at b
      obtain ⟨t1, t2, t3, z⟩ := lIs_run hfs (ω := ω) post (ahead ++ [f]) (.val (enc f)) (.val (.int (ahead.length : Nat))) (.val (.tup (ahead.map enc))) (by rw [h]; simp)
      rw [List.length_append, List.length_singleton] at z
      refine ⟨t1, t2, t3, ?_⟩
      rw [Bool.true_and, ← z]
      exact loopF_step (δ1 := [.val (.tup (fs.map enc)), .val (enc f), .val (.int (ahead.length : Nat)), s3, .emp]) rfl b
    | false =>
      rw [c, if_neg (by decide)] at b
      refine ⟨s1, s2, s3, ?_⟩
      rw [Bool.false_and, if_neg (by decide)]
      exact loopF_rt (δ1 := [.val (.tup (fs.map enc)), .val (enc f), .val (.int (ahead.length : Nat)), s3, .emp]) rfl b
end K24

namespace K24
open PySem DL
/-! ### are they demands: both answers -/
abbrev kBody : EvS := sSeq (sIf (tPeek 2 (tOr (DL.tB (eOp2 (gInA false) (eVar 1) (eVar 2))) (DL.tB (eOp2 gNeX (eComp (iAny (eCall f_w_fp_needs (aCons (eVar 1) aNil))) (gdName 3) (DL.tB (eOp2 (gInA true) (eVar 3) (eVar 2))) (eVar 3) [3]) (eOpN gLst aNil))))) (sRet (eC (.bl false))) sNext) (sApp 2 (eVar 1))
theorem need_comp {δ : Sls} {ω : Om} {f : Flt} {ahead : List Flt} {i j k : Nat} (hf : FP f) (ha : ∀ x ∈ ahead, FP x) (hi : δ[i]? = some (.val (enc f))) (hj : δ[j]? = some (.val (.lst (ahead.map enc)))) (hk : k < δ.length) (hjk : j ≠ k) (hw : wipeD δ [k] = δ) :
    eComp (iAny (eCall f_w_fp_needs (aCons (eVar i) aNil))) (gdName k) (DL.tB (eOp2 (gInA true) (eVar k) (eVar j))) (eVar k) [k] δ ω = .ok (.lst (((nd f).filter fun x => !decide (x ∈ ahead)).map enc)) ω := by
  have k2 := (needs_run f hf.1 ω).2
  refine eComp_run (ds := (nd f).map enc) (ω1 := ω) (iAny_l ?_) ?_
  · simp only [sSeq, sIf, sSet, sRet, sNext, sExpr, sFor, sPar2, sRaise0, sBreak, sCont, sRetN, eOp2, eOp1, eOpN, eVar, eC, eIf, eAnd, eOr, eNot, DL.tB, tNot, tAnd, tOr, aCons, aNil, eCall, eSl, oNone, oSome, eChain, Rs.bind_ok, Rs.bind_err, rs1_some, List.getElem?_cons_zero, List.getElem?_cons_succ, List.set_cons_zero, List.set_cons_succ, Bool.not_true, Bool.not_false, Bool.false_eq_true, if_true, if_false, hi, k2]
  · rw [hw]
    refine compF_filter enc enc (fun x => !decide (x ∈ ahead)) (nd f) fun c hc => ⟨δ.set k (.val (enc c)), rfl, ?_, fun _ => ?_⟩
    · have q := fE.inL (neg := true) (FP_nd hf c hc) ha
      rw [Bool.true_xor] at q
      have e1 : (δ.set k (.val (enc c)))[k]? = some (.val (enc c)) := List.getElem?_set_self hk
      have e2 : (δ.set k (.val (enc c)))[j]? = some (.val (.lst (ahead.map enc))) := by rw [List.getElem?_set_ne (Ne.symm hjk)]; exact hj
      simp only [sSeq, sIf, sSet, sRet, sNext, sExpr, sFor, sPar2, sRaise0, sBreak, sCont, sRetN, eOp2, eOp1, eOpN, eVar, eC, eIf, eAnd, eOr, eNot, DL.tB, tNot, tAnd, tOr, aCons, aNil, eCall, eSl, oNone, oSome, eChain, Rs.bind_ok, Rs.bind_err, rs1_some, List.getElem?_cons_zero, List.getElem?_cons_succ, List.set_cons_zero, List.set_cons_succ, Bool.not_true, Bool.not_false, Bool.false_eq_true, if_true, if_false, e1, e2, q]
    · have e1 : (δ.set k (.val (enc c)))[k]? = some (.val (enc c)) := List.getElem?_set_self hk
      simp only [sSeq, sIf, sSet, sRet, sNext, sExpr, sFor, sPar2, sRaise0, sBreak, sCont, sRetN, eOp2, eOp1, eOpN, eVar, eC, eIf, eAnd, eOr, eNot, DL.tB, tNot, tAnd, tOr, aCons, aNil, eCall, eSl, oNone, oSome, eChain, Rs.bind_ok, Rs.bind_err, rs1_some, List.getElem?_cons_zero, List.getElem?_cons_succ, List.set_cons_zero, List.set_cons_succ, Bool.not_true, Bool.not_false, Bool.false_eq_true, if_true, if_false, e1]
theorem kBody_run {v s3 : Sl} {ω : Om} {f : Flt} {ahead : List Flt} (hf : FP f) (ha : ∀ x ∈ ahead, FP x) (hl : ahead.length < 10000) :
    kBody [v, .val (enc f), .own (ahead.map enc), .emp] ω = if (!decide (f ∈ ahead) && (nd f).all fun x => decide (x ∈ ahead)) = true then .ok (.nx [v, .val (enc f), .own ((ahead ++ [f]).map enc), .emp]) ω else .ok (.rt (.bl false)) ω := by
  have hz : sizeLine = 16777216 := rfl
  have k1 := fE.inL (neg := false) hf ha
  rw [Bool.false_xor] at k1
  have k3 := need_comp (δ := [v, .val (enc f), .val (.lst (ahead.map enc)), .emp]) (ω := ω) (i := 1) (j := 2) (k := 3) hf ha rfl rfl (by show 3 < 4; decide) (by decide) rfl
  have k4 := gNeX_l0 (((nd f).filter fun x => !decide (x ∈ ahead)).map enc)
  rw [List.isEmpty_map, filter_all] at k4
  have t : (tPeek 2 (tOr (DL.tB (eOp2 (gInA false) (eVar 1) (eVar 2))) (DL.tB (eOp2 gNeX (eComp (iAny (eCall f_w_fp_needs (aCons (eVar 1) aNil))) (gdName 3) (DL.tB (eOp2 (gInA true) (eVar 3) (eVar 2))) (eVar 3) [3]) (eOpN gLst aNil))))) [v, .val (enc f), .own (ahead.map enc), .emp] ω = .ok (!(!decide (f ∈ ahead) && (nd f).all fun x => decide (x ∈ ahead))) ω := by
    unfold tPeek
    cases b1 : decide (f ∈ ahead) with
    | true =>
      rw [b1] at k1
      simp only [sSeq, sIf, sSet, sRet, sNext, sExpr, sFor, sPar2, sRaise0, sBreak, sCont, sRetN, eOp2, eOp1, eOpN, eVar, eC, eIf, eAnd, eOr, eNot, DL.tB, tNot, tAnd, tOr, aCons, aNil, eCall, eSl, oNone, oSome, eChain, Rs.bind_ok, Rs.bind_err, rs1_some, List.getElem?_cons_zero, List.getElem?_cons_succ, List.set_cons_zero, List.set_cons_succ, Bool.not_true, Bool.not_false, Bool.false_eq_true, if_true, if_false, k1, noErr, Bool.false_and]
    | false =>
      rw [b1] at k1
      cases b2 : (nd f).all fun x => decide (x ∈ ahead) with
      | true =>
        rw [b2] at k4
        simp only [sSeq, sIf, sSet, sRet, sNext, sExpr, sFor, sPar2, sRaise0, sBreak, sCont, sRetN, eOp2, eOp1, eOpN, eVar, eC, eIf, eAnd, eOr, eNot, DL.tB, tNot, tAnd, tOr, aCons, aNil, eCall, eSl, oNone, oSome, eChain, Rs.bind_ok, Rs.bind_err, rs1_some, List.getElem?_cons_zero, List.getElem?_cons_succ, List.set_cons_zero, List.set_cons_succ, Bool.not_true, Bool.not_false, Bool.false_eq_true, if_true, if_false, k1, k3, gLst_nil, k4, noErr, Bool.true_and]
      | false =>
        rw [b2] at k4
        simp only [sSeq, sIf, sSet, sRet, sNext, sExpr, sFor, sPar2, sRaise0, sBreak, sCont, sRetN, eOp2, eOp1, eOpN, eVar, eC, eIf, eAnd, eOr, eNot, DL.tB, tNot, tAnd, tOr, aCons, aNil, eCall, eSl, oNone, oSome, eChain, Rs.bind_ok, Rs.bind_err, rs1_some, List.getElem?_cons_zero, List.getElem?_cons_succ, List.set_cons_zero, List.set_cons_succ, Bool.not_true, Bool.not_false, Bool.false_eq_true, if_true, if_false, k1, k3, gLst_nil, k4, noErr, Bool.and_false]
  unfold kBody
  cases c : (!decide (f ∈ ahead) && (nd f).all fun x => decide (x ∈ ahead)) with
  | true =>
    rw [c] at t
    rw [if_pos rfl, sSeq_run ((sIf_f t).trans rfl)]
    unfold sApp
    simp only [sSeq, sIf, sSet, sRet, sNext, sExpr, sFor, sPar2, sRaise0, sBreak, sCont, sRetN, eOp2, eOp1, eOpN, eVar, eC, eIf, eAnd, eOr, eNot, DL.tB, tNot, tAnd, tOr, aCons, aNil, eCall, eSl, oNone, oSome, eChain, Rs.bind_ok, Rs.bind_err, rs1_some, List.getElem?_cons_zero, List.getElem?_cons_succ, List.set_cons_zero, List.set_cons_succ, Bool.not_true, Bool.not_false, Bool.false_eq_true, if_true, if_false, List.length_map, show ahead.length < sizeLine by omega, List.map_append, List.map_cons, List.map_nil]
  | false =>
    rw [c] at t
    rw [if_neg (by decide)]
    exact sSeq_rt ((sIf_t t).trans rfl)
theorem lKs_run {v : Sl} {ω : Om} : ∀ (post ahead : List Flt) (s1 : Sl), (∀ x ∈ ahead ++ post, FP x) → ahead.length + post.length < 10000 →
    ∃ s1' s2', loopF (gdName 1) kBody (post.map enc) [v, s1, .own (ahead.map enc), .emp] ω = if isDem nd ahead post = true then .ok (.nx [v, s1', s2', .emp]) ω else .ok (.rt (.bl false)) ω
  | [], ahead, s1, _, _ => ⟨s1, _, rfl⟩
  | f :: post, ahead, s1, h, hl => by
    have b := kBody_run (v := v) (s3 := .emp) (ω := ω) (f := f) (ahead := ahead) (h f (by simp)) (fun x hx => h x (by simp [hx])) (by omega)
    rw [List.length_cons] at hl
    have e : isDem nd ahead (f :: post) = ((!decide (f ∈ ahead) && (nd f).all fun x => decide (x ∈ ahead)) && isDem nd (ahead ++ [f]) post) := by
      show (!decide (f ∈ ahead) && ((nd f).all (fun x => decide (x ∈ ahead)) && isDem nd (ahead ++ [f]) post)) = _
      rw [Bool.and_assoc]
    rw [e, List.map_cons]
    cases c : (!decide (f ∈ ahead) && (nd f).all fun x => decide (x ∈ ahead)) with
    | true =>
      rw [c, if_pos rfl] at b
      obtain ⟨t1, t2, z⟩ := lKs_run (v := v) (ω := ω) post (ahead ++ [f]) (.val (enc f)) (by simpa using h) (by rw [List.length_append, List.length_singleton]; omega)
      refine ⟨t1, t2, ?_⟩
      rw [Bool.true_and, ← z]
      exact loopF_step (δ1 := [v, .val (enc f), .own (ahead.map enc), .emp]) rfl b
    | false =>
      rw [c, if_neg (by decide)] at b
      refine ⟨s1, .emp, ?_⟩
      rw [Bool.false_and, if_neg (by decide)]
      exact loopF_rt (δ1 := [v, .val (enc f), .own (ahead.map enc), .emp]) rfl b
def isDmd (d : D) : Prop := ∃ fs : List Flt, d = .tup (fs.map enc) ∧ (∀ f ∈ fs, FF f) ∧ 1 ≤ fs.length ∧ fs.length ≤ 800 ∧ isDem nd [] fs = true
theorem enc_inj {f g : Flt} (hf : FP f) (hg : FP g) (h : enc f = enc g) : f = g := by
  have e := (py_of f).1
  rw [h, (py_of g).1] at e
  exact ((py_inj f hf.1).1 g hg.1 (Option.some.inj e).symm)
theorem encL_inj : ∀ {fs gs : List Flt}, (∀ f ∈ fs, FF f) → (∀ f ∈ gs, FF f) → fs.map enc = gs.map enc → fs = gs
  | [], [], _, _, _ => rfl
  | f :: fs, g :: gs, h1, h2, h => by
    rw [List.map_cons, List.map_cons] at h
    injection h with h3 h4
    rw [enc_inj (h1 f (by simp)).1 (h2 g (by simp)).1 h3, encL_inj (fun x hx => h1 x (by simp [hx])) (fun x hx => h2 x (by simp [hx])) h4]
  | [], _ :: _, _, _, h => by cases h
  | _ :: _, [], _, _, h => by cases h
theorem le_chain {δ : Sls} {ω : Om} {ds : List D} (h0 : δ[0]? = some (.val (.tup ds))) : eChain gLeA gLeA (eC (.int 1)) (eOpN gLen (aCons (eVar 0) aNil)) (eC (.int 800)) δ ω = .ok (.bl (decide (1 ≤ ds.length) && decide (ds.length ≤ 800))) ω := by
  have k2 : gLeA (.int 1) (.int (ds.length : Nat)) = some (.bl (decide (1 ≤ ds.length))) := gLeA_nat 1 _
  have k3 : gLeA (.int (ds.length : Nat)) (.int 800) = some (.bl (decide (ds.length ≤ 800))) := gLeA_nat _ 800
  generalize decide (1 ≤ ds.length) = b1 at *
  cases b1 <;> simp only [sSeq, sIf, sSet, sRet, sNext, sExpr, sFor, sPar2, sRaise0, sBreak, sCont, sRetN, eOp2, eOp1, eOpN, eVar, eC, eIf, eAnd, eOr, eNot, DL.tB, tNot, tAnd, tOr, aCons, aNil, eCall, eSl, oNone, oSome, eChain, Rs.bind_ok, Rs.bind_err, rs1_some, List.getElem?_cons_zero, List.getElem?_cons_succ, List.set_cons_zero, List.set_cons_succ, Bool.not_true, Bool.not_false, Bool.false_eq_true, if_true, if_false, h0, gLen_t, k2, k3, Bool.true_and, Bool.false_and]
theorem dmd_run {d : D} (h : Gd d) (ω : Om) : ∃ b : Bool, f_is_demands [d] ω = .ok (.bl b) ω ∧ f_w_k24_is [d] ω = .ok (.bl b) ω ∧ (b = true ↔ isDmd d) := by
  suffices q : ∃ b : Bool, g_is_demands [.val d, .emp, .emp, .emp, .emp] ω = .ok (.rt (.bl b)) ω ∧ g_w_k24_is [.val d, .emp, .emp, .emp] ω = .ok (.rt (.bl b)) ω ∧ (b = true ↔ isDmd d) by
    obtain ⟨b, q1, q2, q3⟩ := q
    exact ⟨b, runB_eq (ds := [d]) q1, runB_eq (ds := [d]) q2, q3⟩
  have k1 := isc_tup (good_ok h)
  cases ht : isTup d with
  | false =>
    rw [ht] at k1
    refine ⟨false, sSeq_rt ?_, sSeq_rt ?_, ⟨(fun z => nomatch z), fun ⟨fs, e, _⟩ => by rw [e] at ht; cases ht⟩⟩
    · simp only [sSeq, sIf, sSet, sRet, sNext, sExpr, sFor, sPar2, sRaise0, sBreak, sCont, sRetN, eOp2, eOp1, eOpN, eVar, eC, eIf, eAnd, eOr, eNot, DL.tB, tNot, tAnd, tOr, aCons, aNil, eCall, eSl, oNone, oSome, eChain, Rs.bind_ok, Rs.bind_err, rs1_some, List.getElem?_cons_zero, List.getElem?_cons_succ, List.set_cons_zero, List.set_cons_succ, Bool.not_true, Bool.not_false, Bool.false_eq_true, if_true, if_false, k1]
    · simp only [sSeq, sIf, sSet, sRet, sNext, sExpr, sFor, sPar2, sRaise0, sBreak, sCont, sRetN, eOp2, eOp1, eOpN, eVar, eC, eIf, eAnd, eOr, eNot, DL.tB, tNot, tAnd, tOr, aCons, aNil, eCall, eSl, oNone, oSome, eChain, Rs.bind_ok, Rs.bind_err, rs1_some, List.getElem?_cons_zero, List.getElem?_cons_succ, List.set_cons_zero, List.set_cons_succ, Bool.not_true, Bool.not_false, Bool.false_eq_true, if_true, if_false, k1]
  | true =>
    rw [ht] at k1
    cases d <;> first | (cases ht; done) | skip
    rename_i ds
    have hg := (good_tup.mp h).2
    have c1 := le_chain (δ := [.val (.tup ds), .emp, .emp, .emp, .emp]) (ω := ω) (ds := ds) rfl
    have c2 := le_chain (δ := [.val (.tup ds), .emp, .emp, .emp]) (ω := ω) (ds := ds) rfl
    cases hl : (decide (1 ≤ ds.length) && decide (ds.length ≤ 800)) with
    | false =>
      rw [hl] at c1 c2
      have t1 : (tOr (tNot (DL.tB (eOpN (gIsc kb) (aCons (eVar 0) (aCons (eC (.ty "tuple")) aNil))))) (tNot (DL.tB (eChain gLeA gLeA (eC (.int 1)) (eOpN gLen (aCons (eVar 0) aNil)) (eC (.int 800)))))) [.val (.tup ds), .emp, .emp, .emp, .emp] ω = .ok true ω := by
        simp only [tOr, tNot, DL.tB, eOpN, aCons, aNil, eVar, eC, List.getElem?_cons_zero, Rs.bind_ok, k1, rs1_some, c1, Bool.not_true, Bool.not_false, Bool.false_eq_true, if_false, if_true]
      have t2 : (tOr (tNot (DL.tB (eOpN (gIsc kb) (aCons (eVar 0) (aCons (eC (.ty "tuple")) aNil))))) (tNot (DL.tB (eChain gLeA gLeA (eC (.int 1)) (eOpN gLen (aCons (eVar 0) aNil)) (eC (.int 800)))))) [.val (.tup ds), .emp, .emp, .emp] ω = .ok true ω := by
        simp only [tOr, tNot, DL.tB, eOpN, aCons, aNil, eVar, eC, List.getElem?_cons_zero, Rs.bind_ok, k1, rs1_some, c2, Bool.not_true, Bool.not_false, Bool.false_eq_true, if_false, if_true]
      refine ⟨false, sSeq_rt ((sIf_t t1).trans rfl), sSeq_rt ((sIf_t t2).trans rfl), ⟨(fun z => nomatch z), fun ⟨fs, e, _, e2, e3, _⟩ => ?_⟩⟩
      have el : ds = fs.map enc := D.tup.inj e
      rw [el, List.length_map, decide_eq_true e2, decide_eq_true e3] at hl
      cases hl
    | true =>
      rw [hl] at c1 c2
      have t1 : (tOr (tNot (DL.tB (eOpN (gIsc kb) (aCons (eVar 0) (aCons (eC (.ty "tuple")) aNil))))) (tNot (DL.tB (eChain gLeA gLeA (eC (.int 1)) (eOpN gLen (aCons (eVar 0) aNil)) (eC (.int 800)))))) [.val (.tup ds), .emp, .emp, .emp, .emp] ω = .ok false ω := by
        simp only [tOr, tNot, DL.tB, eOpN, aCons, aNil, eVar, eC, List.getElem?_cons_zero, Rs.bind_ok, k1, rs1_some, c1, Bool.not_true, Bool.not_false, Bool.false_eq_true, if_false, if_true]
      have t2 : (tOr (tNot (DL.tB (eOpN (gIsc kb) (aCons (eVar 0) (aCons (eC (.ty "tuple")) aNil))))) (tNot (DL.tB (eChain gLeA gLeA (eC (.int 1)) (eOpN gLen (aCons (eVar 0) aNil)) (eC (.int 800)))))) [.val (.tup ds), .emp, .emp, .emp] ω = .ok false ω := by
        simp only [tOr, tNot, DL.tB, eOpN, aCons, aNil, eVar, eC, List.getElem?_cons_zero, Rs.bind_ok, k1, rs1_some, c2, Bool.not_true, Bool.not_false, Bool.false_eq_true, if_false, if_true]
      rw [Bool.and_eq_true, decide_eq_true_eq, decide_eq_true_eq] at hl
      have a1 := allF_run (ω := ω) (δ := [.val (.tup ds), .emp, .emp, .emp, .emp]) hg rfl rfl (by show 1 < 5; decide)
      have a1' : (tNot (DL.tB (eOpN gAll (aCons (eComp (iAny (eVar 0)) (gdName 1) tTrue (eCall f_is_filter (aCons (eVar 1) aNil)) [1]) aNil)))) [.val (.tup ds), .emp, .emp, .emp, .emp] ω = .ok (!ds.all isF) ω := by
        unfold tNot DL.tB
        rw [a1, Rs.bind_ok]
        rfl
      have a2 : (eComp (iAny (eVar 0)) (gdName 1) (DL.tB (eOp2 gGt (eCall (f_w_k24_nodes 14) (aCons (eVar 1) (aCons (eC (.int 12)) aNil))) (eC (.int 60)))) (eVar 1) [1]) [.val (.tup ds), .emp, .emp, .emp] ω = .ok (.lst (ds.filter fun x => !isF x)) ω := by
        have e3 : compF (gdName 1) (DL.tB (eOp2 gGt (eCall (f_w_k24_nodes 14) (aCons (eVar 1) (aCons (eC (.int 12)) aNil))) (eC (.int 60)))) (eVar 1) [.val (.tup ds), .emp, .emp, .emp] (ds.map id) ω = .ok ((ds.filter fun x => !isF x).map id) ω := by
          refine compF_filter id id (fun x => !isF x) ds fun c hc => ⟨[.val (.tup ds), .val c, .emp, .emp], rfl, over_run (hg c hc) rfl, fun _ => rfl⟩
        rw [List.map_id, List.map_id] at e3
        exact eComp_run (vs := [1]) (iAny_t rfl) e3
      have a3 := gNeX_l0 (ds.filter fun x => !isF x)
      rw [filter_all] at a3
      have a2' : (DL.tB (eOp2 gNeX (eComp (iAny (eVar 0)) (gdName 1) (DL.tB (eOp2 gGt (eCall (f_w_k24_nodes 14) (aCons (eVar 1) (aCons (eC (.int 12)) aNil))) (eC (.int 60)))) (eVar 1) [1]) (eOpN gLst aNil))) [.val (.tup ds), .emp, .emp, .emp] ω = .ok (!ds.all isF) ω := by
        simp only [sSeq, sIf, sSet, sRet, sNext, sExpr, sFor, sPar2, sRaise0, sBreak, sCont, sRetN, eOp2, eOp1, eOpN, eVar, eC, eIf, eAnd, eOr, eNot, DL.tB, tNot, tAnd, tOr, aCons, aNil, eCall, eSl, oNone, oSome, eChain, Rs.bind_ok, Rs.bind_err, rs1_some, List.getElem?_cons_zero, List.getElem?_cons_succ, List.set_cons_zero, List.set_cons_succ, Bool.not_true, Bool.not_false, Bool.false_eq_true, if_true, if_false, a2, gLst_nil, a3]
      cases ha : ds.all isF with
      | false =>
        rw [ha] at a1' a2'
        refine ⟨false, (sSeq_run ((sIf_f t1).trans rfl)).trans (sSeq_rt ((sIf_t a1').trans rfl)), (sSeq_run ((sIf_f t2).trans rfl)).trans (sSeq_rt ((sIf_t a2').trans rfl)), ⟨(fun z => nomatch z), fun ⟨fs, e, e1, _⟩ => ?_⟩⟩
        have el : ds = fs.map enc := D.tup.inj e
        rw [el, all_enc e1] at ha
        cases ha
      | true =>
        rw [ha] at a1' a2'
        obtain ⟨fs, rfl, hfs⟩ := all_inv ha
        have hfp : ∀ x ∈ fs, FP x := fun x hx => (hfs x hx).1
        rw [List.length_map] at hl
        obtain ⟨t1', t2', t3', z1⟩ := lIs_run hfp (ω := ω) fs [] .emp .emp .emp rfl
        have z1' : loopF (gdTup2 2 1) iBody (numbered (fs.map enc)) [.val (.tup (fs.map enc)), .emp, .emp, .emp, .emp] ω = if isDem nd [] fs = true then .ok (.nx [.val (.tup (fs.map enc)), t1', t2', t3', .emp]) ω else .ok (.rt (.bl false)) ω := z1
        have ei1 : iEnumA (aCons (eVar 0) aNil) [.val (.tup (fs.map enc)), .emp, .emp, .emp, .emp] ω = .ok (numbered (fs.map enc)) ω := rfl
        obtain ⟨u1, u2, z2⟩ := lKs_run (v := .val (.tup (fs.map enc))) (ω := ω) fs [] .emp (by simpa using hfp) (by have : ([] : List Flt).length = 0 := rfl; omega)
        have ei2 : iAny (eVar 0) [.val (.tup (fs.map enc)), .emp, .own [], .emp] ω = .ok (fs.map enc) ω := iAny_t rfl
        have n1 : sNew 2 aNil [.val (.tup (fs.map enc)), .emp, .emp, .emp] ω = .ok (.nx [.val (.tup (fs.map enc)), .emp, .own [], .emp]) ω := rfl
        refine ⟨isDem nd [] fs, (sSeq_run ((sIf_f t1).trans rfl)).trans ((sSeq_run ((sIf_f a1').trans rfl)).trans ?_), (sSeq_run ((sIf_f t2).trans rfl)).trans ((sSeq_run ((sIf_f a2').trans rfl)).trans ((sSeq_run n1).trans ?_)), ⟨fun z => ⟨fs, rfl, hfs, hl.1, hl.2, z⟩, fun ⟨gs, e, e1, _, _, e4⟩ => ?_⟩⟩
        · cases c : isDem nd [] fs with
          | true =>
            rw [c, if_pos rfl] at z1'
            exact (sSeq_run ((sFor_run ei1).trans z1')).trans rfl
          | false =>
            rw [c, if_neg (by decide)] at z1'
            exact sSeq_rt ((sFor_run ei1).trans z1')
        · cases c : isDem nd [] fs with
          | true =>
            rw [c, if_pos rfl] at z2
            exact (sSeq_run ((sFor_run ei2).trans z2)).trans rfl
          | false =>
            rw [c, if_neg (by decide)] at z2
            exact sSeq_rt ((sFor_run ei2).trans z2)
        · rw [encL_inj hfs e1 (D.tup.inj e)]
          exact e4
/-! ### in another sequence -/
abbrev xBody : EvS := sSeq (sSet 5 (eComp (iOwn 2) (gdName 6) (tPeek 3 (DL.tB (eOp2 gEqX (eComp (iAny (eCall f_w_fp_needs (aCons (eVar 6) aNil))) (gdName 7) (DL.tB (eOp2 (gInA true) (eVar 7) (eVar 3))) (eVar 7) [7]) (eOpN gLst aNil)))) (eVar 6) [6])) (sSeq (sApp 3 (eCall pickF (aCons (eVar 0) (aCons (eVar 5) aNil)))) (sRem 2 (ePeek 3 (eOp2 gIx (eVar 3) (eOp1 gNeg (eC (.int 1)))))))
theorem neg1 : gNeg (.int 1) = some (.int (-1)) := rfl
theorem xBody_run {v s4 s5 : Sl} {ω : Om} {b : Int} {Dm found : List Flt} (hFP : ∀ x ∈ Dm, FP x) (hD : isDem nd [] Dm = true) (h : Exch nd Dm found) (hl : found.length < Dm.length) (hn : Dm.length ≤ 800) (ht : Tb b ω) (hb : b < 2 ^ 30) :
    ∃ y s5' ω', y ∈ freeOf nd Dm found ∧ Tb (b + 1) ω' ∧ xBody [.val .st, v, .own ((leftOf Dm found).map enc), .own (found.map enc), s4, s5, .emp, .emp] ω = .ok (.nx [.val .st, v, .own ((leftOf Dm (found ++ [y])).map enc), .own ((found ++ [y]).map enc), s4, s5', .emp, .emp]) ω' := by
  have hz : sizeLine = 16777216 := rfl
  have hleft : ∀ x ∈ leftOf Dm found, FP x := fun x hx => hFP x (List.mem_filter.mp hx).1
  have hfound : ∀ x ∈ found, FP x := fun x hx => hFP x (h.sub x hx)
  have c1 : compF (gdName 6) (tPeek 3 (DL.tB (eOp2 gEqX (eComp (iAny (eCall f_w_fp_needs (aCons (eVar 6) aNil))) (gdName 7) (DL.tB (eOp2 (gInA true) (eVar 7) (eVar 3))) (eVar 7) [7]) (eOpN gLst aNil)))) (eVar 6) [.val .st, v, .own ((leftOf Dm found).map enc), .own (found.map enc), s4, s5, .emp, .emp] ((leftOf Dm found).map enc) ω = .ok ((freeOf nd Dm found).map enc) ω := by
    refine compF_filter enc enc (fun x => (nd x).all fun y => decide (y ∈ found)) (leftOf Dm found) fun c hc => ⟨[.val .st, v, .own ((leftOf Dm found).map enc), .own (found.map enc), s4, s5, .val (enc c), .emp], rfl, ?_, fun _ => rfl⟩
    have k3 := need_comp (δ := [.val .st, v, .own ((leftOf Dm found).map enc), .val (.lst (found.map enc)), s4, s5, .val (enc c), .emp]) (ω := ω) (i := 6) (j := 3) (k := 7) (hleft c hc) hfound rfl rfl (by show 7 < 8; decide) (by decide) rfl
    have k4 := gEqX_l0 (((nd c).filter fun x => !decide (x ∈ found)).map enc)
    rw [List.isEmpty_map, filter_all] at k4
    unfold tPeek
    simp only [sSeq, sIf, sSet, sRet, sNext, sExpr, sFor, sPar2, sRaise0, sBreak, sCont, sRetN, eOp2, eOp1, eOpN, eVar, eC, eIf, eAnd, eOr, eNot, DL.tB, tNot, tAnd, tOr, aCons, aNil, eCall, eSl, oNone, oSome, eChain, Rs.bind_ok, Rs.bind_err, rs1_some, List.getElem?_cons_zero, List.getElem?_cons_succ, List.set_cons_zero, List.set_cons_succ, Bool.not_true, Bool.not_false, Bool.false_eq_true, if_true, if_false, k3, gLst_nil, k4, noErr]
  have c2 := eComp_run (vs := [6]) (δ := [.val .st, v, .own ((leftOf Dm found).map enc), .own (found.map enc), s4, s5, .emp, .emp]) (f := iOwn 2) (ω := ω) (ω1 := ω) rfl c1
  have fl : (freeOf nd Dm found).length ≤ Dm.length := Nat.le_trans (List.length_filter_le _ _) (List.length_filter_le _ _)
  have fpos : 0 < (freeOf nd Dm found).length := List.length_pos_iff.mpr (free_ne hD h hl)
  obtain ⟨d, ω', p1, p2, p3⟩ := pick_step (d := .lst ((freeOf nd Dm found).map enc)) (xs := (freeOf nd Dm found).map enc) rfl ht (by omega) (by rw [List.length_map]; exact fpos) (by rw [List.length_map]; omega)
  obtain ⟨y, y1, rfl⟩ := List.mem_map.mp p2
  obtain ⟨q1, q2, q3⟩ := exch_step hD h y1
  have r1 : sSet 5 (eComp (iOwn 2) (gdName 6) (tPeek 3 (DL.tB (eOp2 gEqX (eComp (iAny (eCall f_w_fp_needs (aCons (eVar 6) aNil))) (gdName 7) (DL.tB (eOp2 (gInA true) (eVar 7) (eVar 3))) (eVar 7) [7]) (eOpN gLst aNil)))) (eVar 6) [6]) [.val .st, v, .own ((leftOf Dm found).map enc), .own (found.map enc), s4, s5, .emp, .emp] ω = .ok (.nx [.val .st, v, .own ((leftOf Dm found).map enc), .own (found.map enc), s4, .val (.lst ((freeOf nd Dm found).map enc)), .emp, .emp]) ω := sSet_run c2
  have r2 : sApp 3 (eCall pickF (aCons (eVar 0) (aCons (eVar 5) aNil))) [.val .st, v, .own ((leftOf Dm found).map enc), .own (found.map enc), s4, .val (.lst ((freeOf nd Dm found).map enc)), .emp, .emp] ω = .ok (.nx [.val .st, v, .own ((leftOf Dm found).map enc), .own ((found ++ [y]).map enc), s4, .val (.lst ((freeOf nd Dm found).map enc)), .emp, .emp]) ω' := by
    unfold sApp
    simp only [sSeq, sIf, sSet, sRet, sNext, sExpr, sFor, sPar2, sRaise0, sBreak, sCont, sRetN, eOp2, eOp1, eOpN, eVar, eC, eIf, eAnd, eOr, eNot, DL.tB, tNot, tAnd, tOr, aCons, aNil, eCall, eSl, oNone, oSome, eChain, Rs.bind_ok, Rs.bind_err, rs1_some, List.getElem?_cons_zero, List.getElem?_cons_succ, List.set_cons_zero, List.set_cons_succ, Bool.not_true, Bool.not_false, Bool.false_eq_true, if_true, if_false, p1, List.length_map, show found.length < sizeLine by omega, List.map_append, List.map_cons, List.map_nil]
  have r3 : (ePeek 3 (eOp2 gIx (eVar 3) (eOp1 gNeg (eC (.int 1))))) [.val .st, v, .own ((leftOf Dm found).map enc), .own ((found ++ [y]).map enc), s4, .val (.lst ((freeOf nd Dm found).map enc)), .emp, .emp] ω' = .ok (enc y) ω' := by
    have e : gIx (.lst ((found ++ [y]).map enc)) (.int (-1)) = some (enc y) := by
      rw [List.map_append]
      exact gIx_llast _ _
    unfold ePeek
    simp only [sSeq, sIf, sSet, sRet, sNext, sExpr, sFor, sPar2, sRaise0, sBreak, sCont, sRetN, eOp2, eOp1, eOpN, eVar, eC, eIf, eAnd, eOr, eNot, DL.tB, tNot, tAnd, tOr, aCons, aNil, eCall, eSl, oNone, oSome, eChain, Rs.bind_ok, Rs.bind_err, rs1_some, List.getElem?_cons_zero, List.getElem?_cons_succ, List.set_cons_zero, List.set_cons_succ, Bool.not_true, Bool.not_false, Bool.false_eq_true, if_true, if_false, neg1, e, noErr, (pure_enc y).1]
  have r4 := fE.rem (i := 2) (l := leftOf Dm found) (δ := [.val .st, v, .own ((leftOf Dm found).map enc), .own ((found ++ [y]).map enc), s4, .val (.lst ((freeOf nd Dm found).map enc)), .emp, .emp]) rfl r3 (hleft y q3) hleft q3
  rw [q2] at r4
  refine ⟨y, .val (.lst ((freeOf nd Dm found).map enc)), ω', y1, p3, ?_⟩
  exact (sSeq_run r1).trans ((sSeq_run r2).trans r4)
theorem lX_run {v : Sl} {Dm : List Flt} (hFP : ∀ x ∈ Dm, FP x) (hD : isDem nd [] Dm = true) (hn : Dm.length ≤ 800) : ∀ (ds : List D) (found : List Flt) (s4 s5 : Sl) (ω : Om) (b : Int), Exch nd Dm found → found.length + ds.length = Dm.length → Tb b ω → b + ds.length < 2 ^ 30 →
    ∃ found' l' s4' s5' ω', Exch nd Dm found' ∧ found'.length = Dm.length ∧ Tb (b + ds.length) ω' ∧ loopF (gdName 4) xBody ds [.val .st, v, .own ((leftOf Dm found).map enc), .own (found.map enc), s4, s5, .emp, .emp] ω = .ok (.nx [.val .st, v, .own l', .own (found'.map enc), s4', s5', .emp, .emp]) ω'
  | [], found, s4, s5, ω, b, h, hl, ht, hb => ⟨found, _, s4, s5, ω, h, by simpa using hl, by simpa using ht, rfl⟩
  | d :: ds, found, s4, s5, ω, b, h, hl, ht, hb => by
    rw [List.length_cons] at hl hb
    obtain ⟨y, s5', ω1, y1, t1, r1⟩ := xBody_run (v := v) (s4 := .val d) (s5 := s5) hFP hD h (by omega) hn ht (by omega)
    obtain ⟨q1, q2, q3⟩ := exch_step hD h y1
    obtain ⟨found', l', s4', s5'', ω', z1, z2, z3, z4⟩ := lX_run hFP hD hn (v := v) ds (found ++ [y]) (.val d) s5' ω1 (b + 1) q1 (by rw [List.length_append, List.length_singleton]; omega) t1 (by omega)
    refine ⟨found', l', s4', s5'', ω', z1, z2, ?_, ?_⟩
    · rw [List.length_cons]
      exact z3.le (by omega)
    · rw [← z4]
      exact loopF_step (δ1 := [.val .st, v, .own ((leftOf Dm found).map enc), .own (found.map enc), .val d, s5, .emp, .emp]) rfl r1
theorem exchanged_run {Dm : List Flt} {ω : Om} {b : Int} (hF : ∀ x ∈ Dm, FF x) (hD : isDem nd [] Dm = true) (h1 : 1 ≤ Dm.length) (hn : Dm.length ≤ 800) (ht : Tb b ω) (hb : b < 2 ^ 29) :
    ∃ (gs : List Flt) (ω' : Om), f_w_k24_exchanged [.st, .tup (Dm.map enc)] ω = .ok (.tup (gs.map enc)) ω' ∧ isDmd (.tup (gs.map enc)) ∧ (∀ x ∈ gs, FF x) ∧ gs.length = Dm.length ∧ Tb (b + 800) ω' := by
  have e1 : sParLN 2 3 (aCons (eVar 1) aNil) [.val .st, .val (.tup (Dm.map enc)), .emp, .emp, .emp, .emp, .emp, .emp] ω = .ok (.nx [.val .st, .val (.tup (Dm.map enc)), .own ((leftOf Dm []).map enc), .own (([] : List Flt).map enc), .emp, .emp, .emp, .emp]) ω := by
    rw [left_nil]
    rfl
  have e2 : iRange (aCons (eOpN gLen (aCons (eVar 1) aNil)) aNil) [.val .st, .val (.tup (Dm.map enc)), .own ((leftOf Dm []).map enc), .own (([] : List Flt).map enc), .emp, .emp, .emp, .emp] ω = .ok ((List.range Dm.length).map fun (j : Nat) => D.int (j : Nat)) ω := by
    refine range_run (k := Dm.length) ?_ (by omega)
    simp only [sSeq, sIf, sSet, sRet, sNext, sExpr, sFor, sPar2, sRaise0, sBreak, sCont, sRetN, eOp2, eOp1, eOpN, eVar, eC, eIf, eAnd, eOr, eNot, DL.tB, tNot, tAnd, tOr, aCons, aNil, eCall, eSl, oNone, oSome, eChain, Rs.bind_ok, Rs.bind_err, rs1_some, List.getElem?_cons_zero, List.getElem?_cons_succ, List.set_cons_zero, List.set_cons_succ, Bool.not_true, Bool.not_false, Bool.false_eq_true, if_true, if_false, gLen_t, List.length_map]
  obtain ⟨found', l', s4', s5', ω', z1, z2, z3, z4⟩ := lX_run (v := .val (.tup (Dm.map enc))) (fun x hx => (hF x hx).1) hD hn ((List.range Dm.length).map fun (j : Nat) => D.int (j : Nat)) [] .emp .emp ω b ⟨rfl, fun x h => nomatch h⟩ (by rw [List.length_map, List.length_range]; exact Nat.zero_add _) ht (by rw [List.length_map, List.length_range]; omega)
  rw [List.length_map, List.length_range] at z3
  have hF' : ∀ x ∈ found', FF x := fun x hx => hF x (z1.sub x hx)
  refine ⟨found', ω', runB_eq (ds := [.st, .tup (Dm.map enc)]) ((sSeq_run e1).trans ((sSeq_run ((sFor_run e2).trans z4)).trans ?_)), ⟨found', rfl, hF', by omega, by omega, z1.dem⟩, hF', z2, z3.le (by omega)⟩
  rfl
end K24

namespace K24
open PySem DL
open SX (S S_tl S_inj S_len S_cat)
theorem good_up {N M : Nat} (h : N ≤ M) : ∀ d, goodD N d = true → goodD M d = true := by
  have key : ∀ n d, sizeOf d < n → goodD N d = true → goodD M d = true := by
    intro n
    induction n with
    | zero => exact fun d h => absurd h (Nat.not_lt_zero _)
    | succ n ih =>
      intro d hs hd
      cases d with
      | str x =>
        have : x.length ≤ N := of_decide_eq_true hd
        exact decide_eq_true (Nat.le_trans this h)
      | tup ds =>
        obtain ⟨h1, h2⟩ := good_tup.mp hd
        refine good_tup.mpr ⟨Nat.le_trans h1 h, fun x hx => ih x ?_ (h2 x hx)⟩
        have := List.sizeOf_lt_of_mem hx
        have e : sizeOf (D.tup ds) = 1 + sizeOf ds := by simp
        omega
      | lst ds =>
        obtain ⟨h1, h2⟩ := good_lst.mp hd
        refine good_lst.mpr ⟨Nat.le_trans h1 h, fun x hx => ih x ?_ (h2 x hx)⟩
        have := List.sizeOf_lt_of_mem hx
        have e : sizeOf (D.lst ds) = 1 + sizeOf ds := by simp
        omega
      | non => rfl
      | bl b => rfl
      | int i => rfl
      | map ks ds => exact hd
      | _ => cases hd
  exact fun d => key (sizeOf d + 1) d (Nat.lt_succ_self _)
/-! ### odd values -/
abbrev oddL : List D := [.non, .int 0, .int (-1), .bl true, .str "1", .str "", .tup [], .lst [], .map [] [], .tup [.int 1], .tup [.tup [.int 0]], .tup [.str "a"], .tup [.str "a", .str "a"], .int (10 ^ 18)]
theorem odd_good : ∀ d ∈ oddL, Gd d := by
  intro d hd
  simp only [List.mem_cons, List.not_mem_nil, or_false] at hd
  rcases hd with h | h | h | h | h | h | h | h | h | h | h | h | h | h <;> (rw [h]; decide +kernel)
theorem one_tup {a : D} : gTup [a] = some (.tup [a]) := gTup_ok (by show 1 ≤ sizeLine; decide)
theorem neg1' : gNeg (.int 1) = some (.int (-1)) := rfl
theorem pow18 : gPow (.int 10) (.int 18) = some (.int (10 ^ 18)) := gPow_p (by decide) (by decide) (by decide)
theorem odd_run {ω : Om} {b : Int} (h : Tb b ω) (hb : b < 2 ^ 40) : ∃ d ω', f_w_odd [.st] ω = .ok d ω' ∧ Gd d ∧ Tb (b + 1) ω' := by
  have el : gLst oddL = some (.lst oddL) := gLst_ok (by show 14 ≤ sizeLine; decide)
  obtain ⟨y, ω', q1, q2, q3⟩ := pick_step (d := .lst oddL) (xs := oddL) rfl h hb (by show 0 < 14; decide) (by show 14 < 2 ^ 24; decide)
  refine ⟨y, ω', runB_eq (ds := [.st]) ?_, odd_good y q2, q3⟩
  show g_w_odd [.val .st] ω = _
  simp only [g_w_odd, sSeq, sIf, sSet, sRet, sNext, sExpr, sFor, sPar2, sRaise0, sBreak, sCont, sRetN, eOp2, eOp1, eOpN, eVar, eC, eIf, eAnd, eOr, eNot, DL.tB, tNot, tAnd, tOr, aCons, aNil, eCall, eSl, oNone, oSome, eChain, Rs.bind_ok, Rs.bind_err, rs1_some, List.getElem?_cons_zero, List.getElem?_cons_succ, List.set_cons_zero, List.set_cons_succ, Bool.not_true, Bool.not_false, Bool.false_eq_true, if_true, if_false, neg1', gTup_nil, gLst_nil, one_tup, two_tup, pow18, el, q1]
/-! ### bent ones -/
def lowD : Nat → D → Bool
  | 0, d => !isTup d
  | n + 1, .tup ds => ds.all (lowD n)
  | _ + 1, _ => true
theorem low_tx : ∀ (n : Nat) (d : D), txD n d = true → lowD n d = true
  | 0, _, h => by cases h
  | n + 1, .tup ds, h => List.all_eq_true.mpr fun x hx => low_tx n x (List.all_eq_true.mp h x hx)
  | n + 1, .str x, _ => rfl
  | n + 1, .non, _ | n + 1, .bl _, _ | n + 1, .int _, _ | n + 1, .lst _, _ | n + 1, .scr _, _ | n + 1, .st, _ | n + 1, .exc _ _, _ | n + 1, .ty _, _ | n + 1, .glo _, _ | n + 1, .map _ _, _ => rfl
def wholeB : D → Bool
  | .int _ => true
  | _ => false
theorem is_whole_run {d : D} {ω : Om} (h : okD d = true) : f_w_is_whole [d] ω = .ok (.bl (wholeB d)) ω := by
  refine runB_eq (ds := [d]) ?_
  show g_w_is_whole [.val d] ω = _
  have k1 := isc_int h
  have k2 := isc_bl h
  cases d <;> first | (cases h; done) | (simp only [g_w_is_whole, sSeq, sIf, sSet, sRet, sNext, sExpr, sFor, sPar2, sRaise0, sBreak, sCont, sRetN, eOp2, eOp1, eOpN, eVar, eC, eIf, eAnd, eOr, eNot, DL.tB, tNot, tAnd, tOr, aCons, aNil, eCall, eSl, oNone, oSome, eChain, Rs.bind_ok, Rs.bind_err, rs1_some, List.getElem?_cons_zero, List.getElem?_cons_succ, List.set_cons_zero, List.set_cons_succ, Bool.not_true, Bool.not_false, Bool.false_eq_true, if_true, if_false, k1, k2, isIntD, isBlD, wholeB])
theorem bent_run : ∀ (n : Nat) (d : D) (ω : Om) (b : Int), lowD n d = true → goodD 5000 d = true → Tb b ω → b + 4 * (n + 1) < 2 ^ 40 → ∃ d' ω', f_w_bent (n + 1) [.st, d] ω = .ok d' ω' ∧ Gd d' ∧ Tb (b + 4 * (n + 1)) ω' := by
  intro n
  induction n with
  | zero =>
    intro d ω b hl hg ht hb
    have ht' : isTup d = false := by simpa [lowD] using hl
    have k1 := isc_tup (good_ok hg)
    rw [ht'] at k1
    obtain ⟨y, ω', q1, q2, q3⟩ := odd_run ht (by omega)
    refine ⟨y, ω', runB_eq (ds := [.st, d]) ?_, q2, q3.le (by omega)⟩
    show g_w_bent (f_w_bent 0) [.val .st, .val d, .emp, .emp] ω = _
    refine sSeq_rt ((sIf_t (ω1 := ω) ?_).trans (sRet_run ?_))
    · simp only [sSeq, sIf, sSet, sRet, sNext, sExpr, sFor, sPar2, sRaise0, sBreak, sCont, sRetN, eOp2, eOp1, eOpN, eVar, eC, eIf, eAnd, eOr, eNot, DL.tB, tNot, tAnd, tOr, aCons, aNil, eCall, eSl, oNone, oSome, eChain, Rs.bind_ok, Rs.bind_err, rs1_some, List.getElem?_cons_zero, List.getElem?_cons_succ, List.set_cons_zero, List.set_cons_succ, Bool.not_true, Bool.not_false, Bool.false_eq_true, if_true, if_false, k1]
    · simp only [sSeq, sIf, sSet, sRet, sNext, sExpr, sFor, sPar2, sRaise0, sBreak, sCont, sRetN, eOp2, eOp1, eOpN, eVar, eC, eIf, eAnd, eOr, eNot, DL.tB, tNot, tAnd, tOr, aCons, aNil, eCall, eSl, oNone, oSome, eChain, Rs.bind_ok, Rs.bind_err, rs1_some, List.getElem?_cons_zero, List.getElem?_cons_succ, List.set_cons_zero, List.set_cons_succ, Bool.not_true, Bool.not_false, Bool.false_eq_true, if_true, if_false, q1]
  | succ n ih =>
    intro d ω b hl hg ht hb
    have hz : sizeLine = 16777216 := rfl
    have hN : NN = 10000 := rfl
    have k1 := isc_tup (good_ok hg)
    -- an odd one
    have odd : ∀ (ω1 : Om) (b1 : Int), b1 ≤ b + 1 → Tb b1 ω1 → (tOr (tNot (DL.tB (eOpN (gIsc kb) (aCons (eVar 1) (aCons (eC (.ty "tuple")) aNil))))) (tOr (DL.tB (eOp2 gEqX (eVar 1) (eOpN gTup aNil))) (DL.tB (eOp2 gEqX (eCall drawF (aCons (eVar 0) (aCons (eC (.int 9)) aNil))) (eC (.int 0)))))) [.val .st, .val d, .emp, .emp] ω = .ok true ω1 → ∃ d' ω', f_w_bent (n + 1 + 1) [.st, d] ω = .ok d' ω' ∧ Gd d' ∧ Tb (b + 4 * ((n + 1 : Nat) + 1)) ω' := by
      intro ω1 b1 hb1 ht1 hc
      obtain ⟨y, ω', q1, q2, q3⟩ := odd_run ht1 (by omega)
      refine ⟨y, ω', runB_eq (ds := [.st, d]) ?_, q2, q3.le (by omega)⟩
      show g_w_bent (f_w_bent (n + 1)) [.val .st, .val d, .emp, .emp] ω = _
      refine sSeq_rt ((sIf_t hc).trans (sRet_run ?_))
      simp only [sSeq, sIf, sSet, sRet, sNext, sExpr, sFor, sPar2, sRaise0, sBreak, sCont, sRetN, eOp2, eOp1, eOpN, eVar, eC, eIf, eAnd, eOr, eNot, DL.tB, tNot, tAnd, tOr, aCons, aNil, eCall, eSl, oNone, oSome, eChain, Rs.bind_ok, Rs.bind_err, rs1_some, List.getElem?_cons_zero, List.getElem?_cons_succ, List.set_cons_zero, List.set_cons_succ, Bool.not_true, Bool.not_false, Bool.false_eq_true, if_true, if_false, q1]
    cases hT : isTup d with
    | false =>
      rw [hT] at k1
      exact odd ω b (by omega) ht (by simp only [sSeq, sIf, sSet, sRet, sNext, sExpr, sFor, sPar2, sRaise0, sBreak, sCont, sRetN, eOp2, eOp1, eOpN, eVar, eC, eIf, eAnd, eOr, eNot, DL.tB, tNot, tAnd, tOr, aCons, aNil, eCall, eSl, oNone, oSome, eChain, Rs.bind_ok, Rs.bind_err, rs1_some, List.getElem?_cons_zero, List.getElem?_cons_succ, List.set_cons_zero, List.set_cons_succ, Bool.not_true, Bool.not_false, Bool.false_eq_true, if_true, if_false, k1])
    | true =>
      rw [hT] at k1
      cases d <;> first | (cases hT; done) | skip
      rename_i ds
      obtain ⟨g1, g2⟩ := good_tup.mp hg
      have hl' : ∀ x ∈ ds, lowD n x = true := List.all_eq_true.mp hl
      have k2 := gEqX_t0 ds
      cases hds : ds.isEmpty with
      | true =>
        rw [hds] at k2
        exact odd ω b (by omega) ht (by simp only [sSeq, sIf, sSet, sRet, sNext, sExpr, sFor, sPar2, sRaise0, sBreak, sCont, sRetN, eOp2, eOp1, eOpN, eVar, eC, eIf, eAnd, eOr, eNot, DL.tB, tNot, tAnd, tOr, aCons, aNil, eCall, eSl, oNone, oSome, eChain, Rs.bind_ok, Rs.bind_err, rs1_some, List.getElem?_cons_zero, List.getElem?_cons_succ, List.set_cons_zero, List.set_cons_succ, Bool.not_true, Bool.not_false, Bool.false_eq_true, if_true, if_false, k1, gTup_nil, k2])
      | false =>
        rw [hds] at k2
        have hpos : 0 < ds.length := by
          cases ds with
          | nil => cases hds
          | cons a r => simp
        obtain ⟨m, ω1, d1, d2, d3⟩ := eDrawC (δ := [.val .st, .val (.tup ds), .emp, .emp]) 9 rfl ht (by omega) (by decide) (by decide)
        have d1' : eCall drawF (aCons (eVar 0) (aCons (eC (.int 9)) aNil)) [.val .st, .val (.tup ds), .emp, .emp] ω = .ok (.int (m : Nat)) ω1 := d1
        have k3 : gEqX (.int (m : Nat)) (.int 0) = some (.bl (decide (m = 0))) := gEqX_nat m 0
        have c0 : (tOr (tNot (DL.tB (eOpN (gIsc kb) (aCons (eVar 1) (aCons (eC (.ty "tuple")) aNil))))) (tOr (DL.tB (eOp2 gEqX (eVar 1) (eOpN gTup aNil))) (DL.tB (eOp2 gEqX (eCall drawF (aCons (eVar 0) (aCons (eC (.int 9)) aNil))) (eC (.int 0)))))) [.val .st, .val (.tup ds), .emp, .emp] ω = .ok (decide (m = 0)) ω1 := by
          simp only [tOr, tNot, DL.tB, eOpN, eOp2, aCons, aNil, eVar, eC, List.getElem?_cons_zero, List.getElem?_cons_succ, Rs.bind_ok, k1, gTup_nil, k2, rs1_some, d1', k3, Bool.not_true, Bool.false_eq_true, if_false]
        by_cases hm : m = 0
        · rw [decide_eq_true hm] at c0
          exact odd ω1 (b + 1) (by omega) d3 c0
        · rw [decide_eq_false hm] at c0
          obtain ⟨at_, ω2, e1, e2, e3⟩ := eDraw (δ := [.val .st, .val (.tup ds), .emp, .emp]) (fe := eOpN gLen (aCons (eVar 1) aNil)) (n := ds.length) (ω := ω1) rfl (by simp only [sSeq, sIf, sSet, sRet, sNext, sExpr, sFor, sPar2, sRaise0, sBreak, sCont, sRetN, eOp2, eOp1, eOpN, eVar, eC, eIf, eAnd, eOr, eNot, DL.tB, tNot, tAnd, tOr, aCons, aNil, eCall, eSl, oNone, oSome, eChain, Rs.bind_ok, Rs.bind_err, rs1_some, List.getElem?_cons_zero, List.getElem?_cons_succ, List.set_cons_zero, List.set_cons_succ, Bool.not_true, Bool.not_false, Bool.false_eq_true, if_true, if_false, gLen_t]) d3 (by omega) hpos (by omega)
          obtain ⟨way, ω3, f1, f2, f3⟩ := eDrawC (δ := [.val .st, .val (.tup ds), .emp, .emp]) 8 rfl e3 (by omega) (by decide) (by decide)
          have f1' : eCall drawF (aCons (eVar 0) (aCons (eC (.int 8)) aNil)) [.val .st, .val (.tup ds), .emp, .emp] ω2 = .ok (.int (way : Nat)) ω3 := f1
          have par : sPar2 2 3 (aCons (eCall drawF (aCons (eVar 0) (aCons (eOpN gLen (aCons (eVar 1) aNil)) aNil))) (aCons (eCall drawF (aCons (eVar 0) (aCons (eC (.int 8)) aNil))) aNil)) [.val .st, .val (.tup ds), .emp, .emp] ω1 = .ok (.nx [.val .st, .val (.tup ds), .val (.int (at_ : Nat)), .val (.int (way : Nat))]) ω3 := sPar2_run (aCons_run e1 (aCons_run f1' rfl))
          have hx : ds[at_]? = some ds[at_] := List.getElem?_eq_getElem e2
          have hmem : ds[at_] ∈ ds := List.getElem_mem e2
          have ix := gIx_tn hx
          have a1 : gAdd (.int (at_ : Nat)) (.int 1) = some (.int ((at_ + 1 : Nat) : Int)) := gAdd_nat at_ 1
          have good10 : ∀ x ∈ ds, Gd x := fun x hx => good_up (by decide) x (g2 x hx)
          have mk : ∀ (l : List D), l.length ≤ 5001 → (∀ x ∈ l, Gd x) → Gd (.tup l) := fun l h1 h2 => good_tup.mpr ⟨by omega, h2⟩
          have key : ∃ d' ω', g_w_bent (f_w_bent (n + 1)) [.val .st, .val (.tup ds), .emp, .emp] ω = .ok (.rt d') ω' ∧ Gd d' ∧ Tb (b + 4 * ((n + 1 : Nat) + 1)) ω' := by
            unfold g_w_bent
            rw [sSeq_run ((sIf_f c0).trans rfl), sSeq_run par]
            have w1 : gLt (.int (way : Nat)) (.int 4) = some (.bl (decide (way < 4))) := gLt_nat way 4
            have w2 : gEqX (.int (way : Nat)) (.int 4) = some (.bl (decide (way = 4))) := gEqX_nat way 4
            have w3 : gEqX (.int (way : Nat)) (.int 5) = some (.bl (decide (way = 5))) := gEqX_nat way 5
            have w4 : gEqX (.int (way : Nat)) (.int 6) = some (.bl (decide (way = 6))) := gEqX_nat way 6
            have w5 : gEqX (.int (way : Nat)) (.int 7) = some (.bl (decide (way = 7))) := gEqX_nat way 7
            by_cases v1 : way < 4
            · rw [decide_eq_true v1] at w1
              obtain ⟨y, ω4, q1, q2, q3⟩ := ih ds[at_] ω3 (b + 1 + 1 + 1) (hl' _ hmem) (g2 _ hmem) f3 (by omega)
              have s1 : gAdd (.tup (ds.take at_)) (.tup [y]) = some (.tup (ds.take at_ ++ [y])) := gAdd_T (by rw [List.length_take, List.length_singleton]; omega)
              have s2 : gAdd (.tup (ds.take at_ ++ [y])) (.tup (ds.drop (at_ + 1))) = some (.tup (ds.take at_ ++ [y] ++ ds.drop (at_ + 1))) := gAdd_T (by rw [List.length_append, List.length_take, List.length_singleton, List.length_drop]; omega)
              refine ⟨.tup (ds.take at_ ++ [y] ++ ds.drop (at_ + 1)), ω4, ?_, mk _ ?_ ?_, q3.le (by omega)⟩
              · simp only [sSeq, sIf, sSet, sRet, sNext, sExpr, sFor, sPar2, sRaise0, sBreak, sCont, sRetN, eOp2, eOp1, eOpN, eVar, eC, eIf, eAnd, eOr, eNot, DL.tB, tNot, tAnd, tOr, aCons, aNil, eCall, eSl, oNone, oSome, eChain, Rs.bind_ok, Rs.bind_err, rs1_some, List.getElem?_cons_zero, List.getElem?_cons_succ, List.set_cons_zero, List.set_cons_succ, Bool.not_true, Bool.not_false, Bool.false_eq_true, if_true, if_false, w1, gSl_t, cutD_to, ix, q1, one_tup, s1, a1, cutD_from, s2]
              · rw [List.length_append, List.length_append, List.length_take, List.length_singleton, List.length_drop]
                omega
              · intro x hx
                rcases List.mem_append.mp hx with hx | hx
                · rcases List.mem_append.mp hx with hx | hx
                  · exact good10 x (List.mem_of_mem_take hx)
                  · rw [List.mem_singleton.mp hx]; exact q2
                · exact good10 x (List.mem_of_mem_drop hx)
            · rw [decide_eq_false v1] at w1
              have f3' := f3.le (c := b + 4 * ((n + 1 : Nat) + 1)) (by omega)
              by_cases v2 : way = 4
              · rw [decide_eq_true v2] at w2
                have s1 : gAdd (.tup (ds.take at_)) (.tup (ds.drop (at_ + 1))) = some (.tup (ds.take at_ ++ ds.drop (at_ + 1))) := gAdd_T (by rw [List.length_take, List.length_drop]; omega)
                refine ⟨.tup (ds.take at_ ++ ds.drop (at_ + 1)), ω3, ?_, mk _ ?_ ?_, f3'⟩
                · simp only [sSeq, sIf, sSet, sRet, sNext, sExpr, sFor, sPar2, sRaise0, sBreak, sCont, sRetN, eOp2, eOp1, eOpN, eVar, eC, eIf, eAnd, eOr, eNot, DL.tB, tNot, tAnd, tOr, aCons, aNil, eCall, eSl, oNone, oSome, eChain, Rs.bind_ok, Rs.bind_err, rs1_some, List.getElem?_cons_zero, List.getElem?_cons_succ, List.set_cons_zero, List.set_cons_succ, Bool.not_true, Bool.not_false, Bool.false_eq_true, if_true, if_false, w1, w2, gSl_t, cutD_to, a1, cutD_from, s1]
                · rw [List.length_append, List.length_take, List.length_drop]
                  omega
                · intro x hx
                  rcases List.mem_append.mp hx with hx | hx
                  · exact good10 x (List.mem_of_mem_take hx)
                  · exact good10 x (List.mem_of_mem_drop hx)
              · rw [decide_eq_false v2] at w2
                by_cases v3 : way = 5
                · rw [decide_eq_true v3] at w3
                  have s0 : cutD ds (some ((at_ : Nat) : Int)) (some ((at_ + 1 : Nat) : Int)) = (ds.drop at_).take (at_ + 1 - at_) := cutD_mid ds at_ (at_ + 1) (by omega)
                  have s1 : gAdd (.tup (ds.take at_)) (.tup ((ds.drop at_).take (at_ + 1 - at_))) = some (.tup (ds.take at_ ++ (ds.drop at_).take (at_ + 1 - at_))) := gAdd_T (by rw [List.length_take, List.length_take, List.length_drop]; omega)
                  have s2 : gAdd (.tup (ds.take at_ ++ (ds.drop at_).take (at_ + 1 - at_))) (.tup (ds.drop at_)) = some (.tup (ds.take at_ ++ (ds.drop at_).take (at_ + 1 - at_) ++ ds.drop at_)) := gAdd_T (by rw [List.length_append, List.length_take, List.length_take, List.length_drop]; omega)
                  refine ⟨.tup (ds.take at_ ++ (ds.drop at_).take (at_ + 1 - at_) ++ ds.drop at_), ω3, ?_, mk _ ?_ ?_, f3'⟩
                  · simp only [sSeq, sIf, sSet, sRet, sNext, sExpr, sFor, sPar2, sRaise0, sBreak, sCont, sRetN, eOp2, eOp1, eOpN, eVar, eC, eIf, eAnd, eOr, eNot, DL.tB, tNot, tAnd, tOr, aCons, aNil, eCall, eSl, oNone, oSome, eChain, Rs.bind_ok, Rs.bind_err, rs1_some, List.getElem?_cons_zero, List.getElem?_cons_succ, List.set_cons_zero, List.set_cons_succ, Bool.not_true, Bool.not_false, Bool.false_eq_true, if_true, if_false, w1, w2, w3, gSl_t, cutD_to, a1, s0, s1, cutD_from, s2]
                  · rw [List.length_append, List.length_append, List.length_take, List.length_take, List.length_drop]
                    omega
                  · intro x hx
                    rcases List.mem_append.mp hx with hx | hx
                    · rcases List.mem_append.mp hx with hx | hx
                      · exact good10 x (List.mem_of_mem_take hx)
                      · exact good10 x (List.mem_of_mem_drop (List.mem_of_mem_take hx))
                    · exact good10 x (List.mem_of_mem_drop hx)
                · rw [decide_eq_false v3] at w3
                  have kw := is_whole_run (ω := ω3) (good_ok (g2 _ hmem))
                  have rest : ∀ (w6 : (tAnd (DL.tB (eOp2 gEqX (eVar 3) (eC (.int 6)))) (DL.tB (eCall f_w_is_whole (aCons (eOp2 gIx (eVar 1) (eVar 2)) aNil)))) [.val .st, .val (.tup ds), .val (.int (at_ : Nat)), .val (.int (way : Nat))] ω3 = .ok false ω3), ∃ d' ω', (sSeq (sIf (DL.tB (eOp2 gLt (eVar 3) (eC (.int 4)))) (sRet (eOp2 gAdd (eOp2 gAdd (eSl gSl (eVar 1) oNone (oSome (eVar 2))) (eOpN gTup (aCons (eCall (f_w_bent (n + 1)) (aCons (eVar 0) (aCons (eOp2 gIx (eVar 1) (eVar 2)) aNil))) aNil))) (eSl gSl (eVar 1) (oSome (eOp2 gAdd (eVar 2) (eC (.int 1)))) oNone))) sNext) (sSeq (sIf (DL.tB (eOp2 gEqX (eVar 3) (eC (.int 4)))) (sRet (eOp2 gAdd (eSl gSl (eVar 1) oNone (oSome (eVar 2))) (eSl gSl (eVar 1) (oSome (eOp2 gAdd (eVar 2) (eC (.int 1)))) oNone))) sNext) (sSeq (sIf (DL.tB (eOp2 gEqX (eVar 3) (eC (.int 5)))) (sRet (eOp2 gAdd (eOp2 gAdd (eSl gSl (eVar 1) oNone (oSome (eVar 2))) (eSl gSl (eVar 1) (oSome (eVar 2)) (oSome (eOp2 gAdd (eVar 2) (eC (.int 1)))))) (eSl gSl (eVar 1) (oSome (eVar 2)) oNone))) sNext) (sSeq (sIf (tAnd (DL.tB (eOp2 gEqX (eVar 3) (eC (.int 6)))) (DL.tB (eCall f_w_is_whole (aCons (eOp2 gIx (eVar 1) (eVar 2)) aNil)))) (sRet (eOp2 gAdd (eOp2 gAdd (eSl gSl (eVar 1) oNone (oSome (eVar 2))) (eOpN gTup (aCons (eOp2 gAdd (eOp2 gIx (eVar 1) (eVar 2)) (eCall pickF (aCons (eVar 0) (aCons (eOpN gLst (aCons (eC (.int 1)) (aCons (eOp1 gNeg (eC (.int 1))) aNil))) aNil)))) aNil))) (eSl gSl (eVar 1) (oSome (eOp2 gAdd (eVar 2) (eC (.int 1)))) oNone))) sNext) (sRet (eIf (DL.tB (eOp2 gEqX (eVar 3) (eC (.int 7)))) (eRevT (eVar 1)) (eOpN gList (aCons (eVar 1) aNil)))))))) [.val .st, .val (.tup ds), .val (.int (at_ : Nat)), .val (.int (way : Nat))] ω3 = .ok (.rt d') ω' ∧ Gd d' ∧ Tb (b + 4 * ((n + 1 : Nat) + 1)) ω' := by
                    intro w6
                    have x1 : (sIf (DL.tB (eOp2 gLt (eVar 3) (eC (.int 4)))) (sRet (eOp2 gAdd (eOp2 gAdd (eSl gSl (eVar 1) oNone (oSome (eVar 2))) (eOpN gTup (aCons (eCall (f_w_bent (n + 1)) (aCons (eVar 0) (aCons (eOp2 gIx (eVar 1) (eVar 2)) aNil))) aNil))) (eSl gSl (eVar 1) (oSome (eOp2 gAdd (eVar 2) (eC (.int 1)))) oNone))) sNext) [.val .st, .val (.tup ds), .val (.int (at_ : Nat)), .val (.int (way : Nat))] ω3 = .ok (.nx [.val .st, .val (.tup ds), .val (.int (at_ : Nat)), .val (.int (way : Nat))]) ω3 := by simp only [sSeq, sIf, sSet, sRet, sNext, sExpr, sFor, sPar2, sRaise0, sBreak, sCont, sRetN, eOp2, eOp1, eOpN, eVar, eC, eIf, eAnd, eOr, eNot, DL.tB, tNot, tAnd, tOr, aCons, aNil, eCall, eSl, oNone, oSome, eChain, Rs.bind_ok, Rs.bind_err, rs1_some, List.getElem?_cons_zero, List.getElem?_cons_succ, List.set_cons_zero, List.set_cons_succ, Bool.not_true, Bool.not_false, Bool.false_eq_true, if_true, if_false, w1]
                    have x2 : (sIf (DL.tB (eOp2 gEqX (eVar 3) (eC (.int 4)))) (sRet (eOp2 gAdd (eSl gSl (eVar 1) oNone (oSome (eVar 2))) (eSl gSl (eVar 1) (oSome (eOp2 gAdd (eVar 2) (eC (.int 1)))) oNone))) sNext) [.val .st, .val (.tup ds), .val (.int (at_ : Nat)), .val (.int (way : Nat))] ω3 = .ok (.nx [.val .st, .val (.tup ds), .val (.int (at_ : Nat)), .val (.int (way : Nat))]) ω3 := by simp only [sSeq, sIf, sSet, sRet, sNext, sExpr, sFor, sPar2, sRaise0, sBreak, sCont, sRetN, eOp2, eOp1, eOpN, eVar, eC, eIf, eAnd, eOr, eNot, DL.tB, tNot, tAnd, tOr, aCons, aNil, eCall, eSl, oNone, oSome, eChain, Rs.bind_ok, Rs.bind_err, rs1_some, List.getElem?_cons_zero, List.getElem?_cons_succ, List.set_cons_zero, List.set_cons_succ, Bool.not_true, Bool.not_false, Bool.false_eq_true, if_true, if_false, w2]
                    have x3 : (sIf (DL.tB (eOp2 gEqX (eVar 3) (eC (.int 5)))) (sRet (eOp2 gAdd (eOp2 gAdd (eSl gSl (eVar 1) oNone (oSome (eVar 2))) (eSl gSl (eVar 1) (oSome (eVar 2)) (oSome (eOp2 gAdd (eVar 2) (eC (.int 1)))))) (eSl gSl (eVar 1) (oSome (eVar 2)) oNone))) sNext) [.val .st, .val (.tup ds), .val (.int (at_ : Nat)), .val (.int (way : Nat))] ω3 = .ok (.nx [.val .st, .val (.tup ds), .val (.int (at_ : Nat)), .val (.int (way : Nat))]) ω3 := by simp only [sSeq, sIf, sSet, sRet, sNext, sExpr, sFor, sPar2, sRaise0, sBreak, sCont, sRetN, eOp2, eOp1, eOpN, eVar, eC, eIf, eAnd, eOr, eNot, DL.tB, tNot, tAnd, tOr, aCons, aNil, eCall, eSl, oNone, oSome, eChain, Rs.bind_ok, Rs.bind_err, rs1_some, List.getElem?_cons_zero, List.getElem?_cons_succ, List.set_cons_zero, List.set_cons_succ, Bool.not_true, Bool.not_false, Bool.false_eq_true, if_true, if_false, w3]
                    rw [sSeq_run x1, sSeq_run x2, sSeq_run x3, sSeq_run ((sIf_f w6).trans rfl)]
                    by_cases v5 : way = 7
                    · rw [decide_eq_true v5] at w5
                      refine ⟨.tup ds.reverse, ω3, ?_, mk _ (by rw [List.length_reverse]; omega) (fun x hx => good10 x (by simpa using hx)), f3'⟩
                      simp only [eRevT, sSeq, sIf, sSet, sRet, sNext, sExpr, sFor, sPar2, sRaise0, sBreak, sCont, sRetN, eOp2, eOp1, eOpN, eVar, eC, eIf, eAnd, eOr, eNot, DL.tB, tNot, tAnd, tOr, aCons, aNil, eCall, eSl, oNone, oSome, eChain, Rs.bind_ok, Rs.bind_err, rs1_some, List.getElem?_cons_zero, List.getElem?_cons_succ, List.set_cons_zero, List.set_cons_succ, Bool.not_true, Bool.not_false, Bool.false_eq_true, if_true, if_false, w5]
                    · rw [decide_eq_false v5] at w5
                      refine ⟨.lst ds, ω3, ?_, good_lst.mpr ⟨by omega, good10⟩, f3'⟩
                      simp only [sSeq, sIf, sSet, sRet, sNext, sExpr, sFor, sPar2, sRaise0, sBreak, sCont, sRetN, eOp2, eOp1, eOpN, eVar, eC, eIf, eAnd, eOr, eNot, DL.tB, tNot, tAnd, tOr, aCons, aNil, eCall, eSl, oNone, oSome, eChain, Rs.bind_ok, Rs.bind_err, rs1_some, List.getElem?_cons_zero, List.getElem?_cons_succ, List.set_cons_zero, List.set_cons_succ, Bool.not_true, Bool.not_false, Bool.false_eq_true, if_true, if_false, w5, gList_t]
                  by_cases v4 : way = 6
                  · rw [decide_eq_true v4] at w4
                    cases hw : wholeB ds[at_] with
                    | false =>
                      rw [hw] at kw
                      exact rest (by simp only [sSeq, sIf, sSet, sRet, sNext, sExpr, sFor, sPar2, sRaise0, sBreak, sCont, sRetN, eOp2, eOp1, eOpN, eVar, eC, eIf, eAnd, eOr, eNot, DL.tB, tNot, tAnd, tOr, aCons, aNil, eCall, eSl, oNone, oSome, eChain, Rs.bind_ok, Rs.bind_err, rs1_some, List.getElem?_cons_zero, List.getElem?_cons_succ, List.set_cons_zero, List.set_cons_succ, Bool.not_true, Bool.not_false, Bool.false_eq_true, if_true, if_false, w4, ix, kw])
                    | true =>
                      rw [hw] at kw
                      obtain ⟨i, hi⟩ : ∃ i, ds[at_] = .int i := by
                        cases e : ds[at_] with
                        | int i => exact ⟨i, rfl⟩
                        | _ => rw [e] at hw; cases hw
                      obtain ⟨y, ω4, q1, q2, q3⟩ := pick_step (d := .lst [.int 1, .int (-1)]) (xs := [.int 1, .int (-1)]) rfl f3 (by omega) (by decide) (by decide)
                      obtain ⟨j, rfl⟩ : ∃ j, y = .int j := by
                        rcases List.mem_cons.mp q2 with rfl | q2
                        · exact ⟨_, rfl⟩
                        · rw [List.mem_singleton.mp q2]; exact ⟨_, rfl⟩
                      have aij : gAdd (.int i) (.int j) = some (.int (i + j)) := gAdd_i
                      have s1 : gAdd (.tup (ds.take at_)) (.tup [.int (i + j)]) = some (.tup (ds.take at_ ++ [.int (i + j)])) := gAdd_T (by rw [List.length_take, List.length_singleton]; omega)
                      have s2 : gAdd (.tup (ds.take at_ ++ [.int (i + j)])) (.tup (ds.drop (at_ + 1))) = some (.tup (ds.take at_ ++ [.int (i + j)] ++ ds.drop (at_ + 1))) := gAdd_T (by rw [List.length_append, List.length_take, List.length_singleton, List.length_drop]; omega)
                      rw [hi] at ix kw
                      refine ⟨.tup (ds.take at_ ++ [.int (i + j)] ++ ds.drop (at_ + 1)), ω4, ?_, mk _ ?_ ?_, q3.le (by omega)⟩
                      · simp only [sSeq, sIf, sSet, sRet, sNext, sExpr, sFor, sPar2, sRaise0, sBreak, sCont, sRetN, eOp2, eOp1, eOpN, eVar, eC, eIf, eAnd, eOr, eNot, DL.tB, tNot, tAnd, tOr, aCons, aNil, eCall, eSl, oNone, oSome, eChain, Rs.bind_ok, Rs.bind_err, rs1_some, List.getElem?_cons_zero, List.getElem?_cons_succ, List.set_cons_zero, List.set_cons_succ, Bool.not_true, Bool.not_false, Bool.false_eq_true, if_true, if_false, w1, w2, w3, w4, gSl_t, cutD_to, ix, kw, neg1', two_lst, q1, aij, one_tup, s1, a1, cutD_from, s2]
                      · rw [List.length_append, List.length_append, List.length_take, List.length_singleton, List.length_drop]
                        omega
                      · intro x hx
                        rcases List.mem_append.mp hx with hx | hx
                        · rcases List.mem_append.mp hx with hx | hx
                          · exact good10 x (List.mem_of_mem_take hx)
                          · rw [List.mem_singleton.mp hx]; rfl
                        · exact good10 x (List.mem_of_mem_drop hx)
                  · rw [decide_eq_false v4] at w4
                    exact rest (by simp only [sSeq, sIf, sSet, sRet, sNext, sExpr, sFor, sPar2, sRaise0, sBreak, sCont, sRetN, eOp2, eOp1, eOpN, eVar, eC, eIf, eAnd, eOr, eNot, DL.tB, tNot, tAnd, tOr, aCons, aNil, eCall, eSl, oNone, oSome, eChain, Rs.bind_ok, Rs.bind_err, rs1_some, List.getElem?_cons_zero, List.getElem?_cons_succ, List.set_cons_zero, List.set_cons_succ, Bool.not_true, Bool.not_false, Bool.false_eq_true, if_true, if_false, w4])
          obtain ⟨d', ω', r1, r2, r3⟩ := key
          exact ⟨d', ω', runB_eq (ds := [.st, .tup ds]) r1, r2, r3⟩
end K24

namespace K24
open PySem DL
open SX (S S_tl S_inj S_len S_cat)
/-! ### what is drawn is good -/
theorem nm_len {x : Str} (h : nmB x = true) : x.length ≤ 12 := by
  unfold nmB at h
  cases e : x.cps.toList with
  | nil =>
    have : x.cps.toList.length = 0 := by rw [e]; rfl
    have q : x.length = x.cps.toList.length := by rw [Array.length_toList]; rfl
    omega
  | cons c r =>
    rw [e] at h
    simp only [nmL, Bool.and_eq_true, decide_eq_true_eq] at h
    have : x.cps.toList.length = r.length + 1 := by rw [e]; rfl
    have q : x.length = x.cps.toList.length := by rw [Array.length_toList]; rfl
    omega
theorem ax_len : ∀ x ∈ axL, x.length ≤ 12 := by decide +kernel
theorem gt3 {N : Nat} (h : 12 ≤ N) {ds : List D} (hl : ds.length ≤ 12) (hd : ∀ d ∈ ds, goodD N d = true) : goodD N (.tup ds) = true := good_tup.mpr ⟨by omega, hd⟩
theorem gstr {N : Nat} {x : Str} (h : x.length ≤ N) : goodD N (.str x) = true := decide_eq_true h
theorem good_enc : ∀ f : Flt, wf f = true → goodD 12 (enc f) = true ∧ ∀ x ∈ stp f, goodD 12 x = true
  | .tru, _ => ⟨by decide +kernel, fun x h => nomatch h⟩
  | .lab x, h => ⟨gt3 (Nat.le_refl _) (by decide : 2 ≤ 12) fun d hd => by
      rcases List.mem_cons.mp hd with rfl | hd
      · decide +kernel
      · rw [List.mem_singleton.mp hd]; exact gstr (nm_len h), fun x h => nomatch h⟩
  | .no f, h => ⟨gt3 (Nat.le_refl _) (by decide : 2 ≤ 12) fun d hd => by
      rcases List.mem_cons.mp hd with rfl | hd
      · decide +kernel
      · rw [List.mem_singleton.mp hd]; exact (good_enc f h).1, fun x h => nomatch h⟩
  | .an f g, h => ⟨gt3 (Nat.le_refl _) (by decide : 3 ≤ 12) fun d hd => by
      simp only [wf, Bool.and_eq_true] at h
      rcases List.mem_cons.mp hd with rfl | hd
      · decide +kernel
      · rcases List.mem_cons.mp hd with rfl | hd
        · exact (good_enc f h.1).1
        · rw [List.mem_singleton.mp hd]; exact (good_enc g h.2).1, fun x h => nomatch h⟩
  | .orr f g, h => ⟨gt3 (Nat.le_refl _) (by decide : 3 ≤ 12) fun d hd => by
      simp only [wf, Bool.and_eq_true] at h
      rcases List.mem_cons.mp hd with rfl | hd
      · decide +kernel
      · rcases List.mem_cons.mp hd with rfl | hd
        · exact (good_enc f h.1).1
        · rw [List.mem_singleton.mp hd]; exact (good_enc g h.2).1, fun x h => nomatch h⟩
  | .stop, _ => ⟨by decide +kernel, fun x h => nomatch h⟩
  | .step a f r, h => by
      simp only [wf, Bool.and_eq_true, decide_eq_true_eq] at h
      have B : ∀ x ∈ stp (.step a f r), goodD 12 x = true := fun x hx => by
        rcases List.mem_cons.mp (show x ∈ D.tup [.str a, enc f] :: stp r from hx) with rfl | hx
        · refine gt3 (Nat.le_refl _) (by decide : 2 ≤ 12) fun d hd => ?_
          rcases List.mem_cons.mp hd with rfl | hd
          · exact gstr (ax_len a (of_decide_eq_true h.1))
          · rw [List.mem_singleton.mp hd]; exact (good_enc f h.2.1).1
        · exact (good_enc r h.2.2.1).2 x hx
      refine ⟨gt3 (Nat.le_refl _) (by decide : 2 ≤ 12) fun d hd => ?_, B⟩
      rcases List.mem_cons.mp hd with rfl | hd
      · decide +kernel
      · rw [List.mem_singleton.mp hd]
        exact gt3 (Nat.le_refl _) (by show (stp r).length + 1 ≤ 12; omega) B
theorem gd_enc {f : Flt} (h : wf f = true) : goodD 5000 (enc f) = true ∧ Gd (enc f) := ⟨good_up (by decide) _ (good_enc f h).1, good_up (by decide) _ (good_enc f h).1⟩
/-! ### drawn paths -/
def mkP : List (Str × Flt) → Flt
  | [] => .stop
  | p :: r => .step p.1 p.2 (mkP r)
def stepD (p : Str × Flt) : D := .tup [.str p.1, enc p.2]
theorem mkP_stp : ∀ l, stp (mkP l) = l.map stepD
  | [] => rfl
  | p :: r => by
    show stepD p :: stp (mkP r) = _
    rw [mkP_stp r]
    rfl
theorem mkP_path : ∀ l, isPath (mkP l) = true
  | [] => rfl
  | _ :: _ => rfl
theorem mkP_wf : ∀ l : List (Str × Flt), l.length ≤ 8 → (∀ p ∈ l, axB p.1 = true ∧ wf p.2 = true) → wf (mkP l) = true
  | [], _, _ => rfl
  | p :: r, hl, h => by
    rw [List.length_cons] at hl
    have q := mkP_wf r (by omega) fun x hx => h x (by simp [hx])
    obtain ⟨h1, h2⟩ := h p (by simp)
    have e : (stp (mkP r)).length = r.length := by rw [mkP_stp, List.length_map]
    simp only [mkP, wf, h1, h2, q, mkP_path, e, Bool.true_and, decide_eq_true_eq]
    omega
theorem mkP_dep {K : Nat} : ∀ l : List (Str × Flt), (∀ p ∈ l, dep p.2 ≤ K) → dep (mkP l) ≤ K + 1
  | [], _ => by simp [mkP, dep]
  | p :: r, h => by
    have q := mkP_dep r fun x hx => h x (by simp [hx])
    have := h p (by simp)
    simp only [mkP, dep]
    omega
theorem mkP_nod {k : Nat} : ∀ l : List (Str × Flt), (∀ p ∈ l, nod p.2 = k) → nod (mkP l) = (k + 1) * l.length + 1
  | [], _ => rfl
  | p :: r, h => by
    have q := mkP_nod r fun x hx => h x (by simp [hx])
    have := h p (by simp)
    simp only [mkP, nod, q, this, List.length_cons, Nat.mul_add]
    omega
theorem mkP_enc (l : List (Str × Flt)) : enc (mkP l) = .tup [.str "some", .tup (l.map stepD)] := by
  rw [stop_path _ (mkP_path l), mkP_stp]
/-! ### drawn filters -/
def TF (F : List D → Om → Rs D) (k : Nat) (c : Int) : Prop := ∀ ω b, Tb b ω → b + c < 2 ^ 39 → ∃ f ω', F [.st, .int (k : Nat)] ω = .ok (enc f) ω' ∧ wf f = true ∧ dep f ≤ k + 1 ∧ Tb (b + c) ω'
abbrev tpBody (F : List D → Om → Rs D) : EvS := sApp 3 (eOpN gTup (aCons (eCall pickF (aCons (eVar 0) (aCons (eVar 2) aNil))) (aCons (eIf (tAnd (DL.tB (eOp2 gGt (eVar 1) (eC (.int 0)))) (DL.tB (eOp2 gEqX (eCall drawF (aCons (eVar 0) (aCons (eC (.int 3)) aNil))) (eC (.int 0))))) (eCall F (aCons (eVar 0) (aCons (eOp2 gSub (eVar 1) (eC (.int 1))) aNil))) (eCall F (aCons (eVar 0) (aCons (eC (.int 0)) aNil)))) aNil)))
abbrev axesD : D := .lst [.str "child", .str "child", .str "below", .str "self"]
section
variable {F : List D → Om → Rs D} {k : Nat} {c : Int}
theorem tpBody_run (h0 : TF F 0 c) (hk : 0 < k → TF F (k - 1) c) (hc : 0 ≤ c) {l : List D} {s4 : Sl} {ω : Om} {b : Int} (hl : l.length < 1000) (ht : Tb b ω) (hb : b + (c + 2) < 2 ^ 39) :
    ∃ p ω', tpBody F [.val .st, .val (.int (k : Nat)), .val axesD, .own l, s4] ω = .ok (.nx [.val .st, .val (.int (k : Nat)), .val axesD, .own (l ++ [stepD p]), s4]) ω' ∧ axB p.1 = true ∧ wf p.2 = true ∧ dep p.2 ≤ k + 1 ∧ Tb (b + (c + 2)) ω' := by
  have hz : sizeLine = 16777216 := rfl
  obtain ⟨a, ω1, p1, p2, p3⟩ := ePick (δ := [.val .st, .val (.int (k : Nat)), .val axesD, .own l, s4]) (i := 0) (fe := eVar 2) (d := axesD) (xs := [.str "child", .str "child", .str "below", .str "self"]) (ω := ω) rfl rfl rfl ht (by omega) (by decide) (by decide)
  obtain ⟨ax, rfl, hax⟩ : ∃ ax, a = .str ax ∧ axB ax = true := by
    simp only [List.mem_cons, List.not_mem_nil, or_false] at p2
    rcases p2 with h | h | h | h <;> exact ⟨_, h, by decide +kernel⟩
  have fin : ∀ (fe : EvE) (f : Flt) (ω' : Om), fe [.val .st, .val (.int (k : Nat)), .val axesD, .own l, s4] ω1 = .ok (enc f) ω' → sApp 3 (eOpN gTup (aCons (eCall pickF (aCons (eVar 0) (aCons (eVar 2) aNil))) (aCons fe aNil))) [.val .st, .val (.int (k : Nat)), .val axesD, .own l, s4] ω = .ok (.nx [.val .st, .val (.int (k : Nat)), .val axesD, .own (l ++ [stepD (ax, f)]), s4]) ω' := fun fe f ω' h => by
    have e := aCons_run p1 (aCons_run h (show aNil _ ω' = .ok [] ω' from rfl))
    unfold sApp eOpN
    simp only [List.getElem?_cons_zero, List.getElem?_cons_succ, e, Rs.bind_ok, two_tup, rs1_some, show l.length < sizeLine by omega, if_true, List.set_cons_zero, List.set_cons_succ]
    rfl
  have g1 : gGt (.int (k : Nat)) (.int 0) = some (.bl (decide (0 < k))) := gGt_nat k 0
  by_cases hk0 : 0 < k
  · rw [decide_eq_true hk0] at g1
    obtain ⟨m, ω2, d1, d2, d3⟩ := eDrawC (δ := [.val .st, .val (.int (k : Nat)), .val axesD, .own l, s4]) 3 rfl p3 (by omega) (by decide) (by decide)
    have d1' : eCall drawF (aCons (eVar 0) (aCons (eC (.int 3)) aNil)) [.val .st, .val (.int (k : Nat)), .val axesD, .own l, s4] ω1 = .ok (.int (m : Nat)) ω2 := d1
    have g2 : gEqX (.int (m : Nat)) (.int 0) = some (.bl (decide (m = 0))) := gEqX_nat m 0
    have c0 : (tAnd (DL.tB (eOp2 gGt (eVar 1) (eC (.int 0)))) (DL.tB (eOp2 gEqX (eCall drawF (aCons (eVar 0) (aCons (eC (.int 3)) aNil))) (eC (.int 0))))) [.val .st, .val (.int (k : Nat)), .val axesD, .own l, s4] ω1 = .ok (decide (m = 0)) ω2 := by
      simp only [tAnd, DL.tB, eOp2, eVar, eC, List.getElem?_cons_zero, List.getElem?_cons_succ, Rs.bind_ok, g1, rs1_some, if_true, d1', g2]
    by_cases hm : m = 0
    · rw [decide_eq_true hm] at c0
      obtain ⟨f, ω3, q1, q2, q3, q4⟩ := hk hk0 ω2 _ d3 (by omega)
      have hs : gSub (.int (k : Nat)) (.int 1) = some (.int ((k - 1 : Nat) : Int)) := gSub_nat k 1 hk0
      refine ⟨(ax, f), ω3, fin _ f ω3 ?_, hax, q2, by show dep f ≤ _; omega, q4.le (by omega)⟩
      unfold eIf
      rw [c0, Rs.bind_ok, if_pos rfl]
      simp only [sSeq, sIf, sSet, sRet, sNext, sExpr, sFor, sPar2, sRaise0, sBreak, sCont, sRetN, eOp2, eOp1, eOpN, eVar, eC, eIf, eAnd, eOr, eNot, DL.tB, tNot, tAnd, tOr, aCons, aNil, eCall, eSl, oNone, oSome, eChain, Rs.bind_ok, Rs.bind_err, rs1_some, List.getElem?_cons_zero, List.getElem?_cons_succ, List.set_cons_zero, List.set_cons_succ, Bool.not_true, Bool.not_false, Bool.false_eq_true, if_true, if_false, hs, q1]
    · rw [decide_eq_false hm] at c0
      obtain ⟨f, ω3, q1, q2, q3, q4⟩ := h0 ω2 _ d3 (by omega)
      have q1' : F [.st, .int 0] ω2 = .ok (enc f) ω3 := q1
      refine ⟨(ax, f), ω3, fin _ f ω3 ?_, hax, q2, by show dep f ≤ _; omega, q4.le (by omega)⟩
      unfold eIf
      rw [c0, Rs.bind_ok, if_neg (by decide)]
      simp only [sSeq, sIf, sSet, sRet, sNext, sExpr, sFor, sPar2, sRaise0, sBreak, sCont, sRetN, eOp2, eOp1, eOpN, eVar, eC, eIf, eAnd, eOr, eNot, DL.tB, tNot, tAnd, tOr, aCons, aNil, eCall, eSl, oNone, oSome, eChain, Rs.bind_ok, Rs.bind_err, rs1_some, List.getElem?_cons_zero, List.getElem?_cons_succ, List.set_cons_zero, List.set_cons_succ, Bool.not_true, Bool.not_false, Bool.false_eq_true, if_true, if_false, q1']
  · rw [decide_eq_false hk0] at g1
    obtain ⟨f, ω3, q1, q2, q3, q4⟩ := h0 ω1 _ p3 (by omega)
    have q1' : F [.st, .int 0] ω1 = .ok (enc f) ω3 := q1
    refine ⟨(ax, f), ω3, fin _ f ω3 ?_, hax, q2, by show dep f ≤ _; omega, q4.le (by omega)⟩
    simp only [sSeq, sIf, sSet, sRet, sNext, sExpr, sFor, sPar2, sRaise0, sBreak, sCont, sRetN, eOp2, eOp1, eOpN, eVar, eC, eIf, eAnd, eOr, eNot, DL.tB, tNot, tAnd, tOr, aCons, aNil, eCall, eSl, oNone, oSome, eChain, Rs.bind_ok, Rs.bind_err, rs1_some, List.getElem?_cons_zero, List.getElem?_cons_succ, List.set_cons_zero, List.set_cons_succ, Bool.not_true, Bool.not_false, Bool.false_eq_true, if_true, if_false, g1, q1']
theorem lTp_run (h0 : TF F 0 c) (hk : 0 < k → TF F (k - 1) c) (hc : 0 ≤ c) : ∀ (ds : List D) (l : List (Str × Flt)) (s4 : Sl) (ω : Om) (b : Int), l.length + ds.length < 1000 → (∀ p ∈ l, axB p.1 = true ∧ wf p.2 = true ∧ dep p.2 ≤ k + 1) → Tb b ω → b + (c + 2) * ds.length < 2 ^ 39 →
    ∃ (l' : List (Str × Flt)) (s4' : Sl) (ω' : Om), loopF (gdName 4) (tpBody F) ds [.val .st, .val (.int (k : Nat)), .val axesD, .own (l.map stepD), s4] ω = .ok (.nx [.val .st, .val (.int (k : Nat)), .val axesD, .own (l'.map stepD), s4']) ω' ∧ l'.length = l.length + ds.length ∧ (∀ p ∈ l', axB p.1 = true ∧ wf p.2 = true ∧ dep p.2 ≤ k + 1) ∧ Tb (b + (c + 2) * ds.length) ω'
  | [], l, s4, ω, b, _, h, ht, _ => ⟨l, s4, ω, rfl, rfl, h, by simpa using ht⟩
  | d :: ds, l, s4, ω, b, hl, h, ht, hb => by
    rw [List.length_cons] at hl hb
    have hb' : b + (c + 2) * ds.length + (c + 2) < 2 ^ 39 := by
      have : (c + 2) * ((ds.length + 1 : Nat) : Int) = (c + 2) * ds.length + (c + 2) := by rw [Int.natCast_add, Int.mul_add]; simp
      omega
    have hnn : 0 ≤ (c + 2) * (ds.length : Int) := Int.mul_nonneg (by omega) (by omega)
    obtain ⟨p, ω1, q1, q2, q3, q4, q5⟩ := tpBody_run (k := k) h0 hk hc (l := l.map stepD) (s4 := .val d) (ω := ω) (b := b) (by rw [List.length_map]; omega) ht (by omega)
    obtain ⟨l', s4', ω', z1, z2, z3, z4⟩ := lTp_run h0 hk hc ds (l ++ [p]) (.val d) ω1 (b + (c + 2)) (by rw [List.length_append, List.length_singleton]; omega) (fun x hx => by
      rcases List.mem_append.mp hx with hx | hx
      · exact h x hx
      · rw [List.mem_singleton.mp hx]; exact ⟨q2, q3, q4⟩) q5 (by omega)
    refine ⟨l', s4', ω', ?_, by rw [z2, List.length_append, List.length_singleton, List.length_cons]; omega, z3, z4.le ?_⟩
    · rw [List.map_append] at z1
      rw [← z1]
      exact loopF_step (δ1 := [.val .st, .val (.int (k : Nat)), .val axesD, .own (l.map stepD), .val d]) rfl q1
    · rw [List.length_cons]
      have : (c + 2) * ((ds.length + 1 : Nat) : Int) = (c + 2) * ds.length + (c + 2) := by rw [Int.natCast_add, Int.mul_add]; simp
      omega
theorem four_lst : gLst [.str "child", .str "child", .str "below", .str "self"] = some axesD := gLst_ok (by show 4 ≤ sizeLine; decide)
theorem tr_path_run (h0 : TF F 0 c) (hk : 0 < k → TF F (k - 1) c) (hc : 0 ≤ c) {ω : Om} {b : Int} (ht : Tb b ω) (hb : b + (1 + (c + 2) * 3) < 2 ^ 39) :
    ∃ (l : List (Str × Flt)) (ω' : Om), runB 5 (g_w_tr_path F) [.st, .int (k : Nat)] ω = .ok (.tup (l.map stepD)) ω' ∧ l.length ≤ 8 ∧ (∀ p ∈ l, axB p.1 = true ∧ wf p.2 = true ∧ dep p.2 ≤ k + 1) ∧ Tb (b + (1 + (c + 2) * 3)) ω' := by
  have p1 : sParVN 2 3 (eOpN gLst (aCons (eC (.str "child")) (aCons (eC (.str "child")) (aCons (eC (.str "below")) (aCons (eC (.str "self")) aNil))))) [.val .st, .val (.int (k : Nat)), .emp, .emp, .emp] ω = .ok (.nx [.val .st, .val (.int (k : Nat)), .val axesD, .own [], .emp]) ω := by
    unfold sParVN
    simp only [sSeq, sIf, sSet, sRet, sNext, sExpr, sFor, sPar2, sRaise0, sBreak, sCont, sRetN, eOp2, eOp1, eOpN, eVar, eC, eIf, eAnd, eOr, eNot, DL.tB, tNot, tAnd, tOr, aCons, aNil, eCall, eSl, oNone, oSome, eChain, Rs.bind_ok, Rs.bind_err, rs1_some, List.getElem?_cons_zero, List.getElem?_cons_succ, List.set_cons_zero, List.set_cons_succ, Bool.not_true, Bool.not_false, Bool.false_eq_true, if_true, if_false, four_lst, List.length_cons, List.length_nil, show 3 < 0 + 1 + 1 + 1 + 1 + 1 from by decide]
  obtain ⟨m, ω1, d1, d2, d3⟩ := eDrawC (δ := [.val .st, .val (.int (k : Nat)), .val axesD, .own [], .emp]) 4 rfl ht (by omega) (by decide) (by decide)
  have ei : iRange (aCons (eCall drawF (aCons (eVar 0) (aCons (eC (.int 4)) aNil))) aNil) [.val .st, .val (.int (k : Nat)), .val axesD, .own [], .emp] ω = .ok ((List.range m).map fun (j : Nat) => D.int (j : Nat)) ω1 := range_run (k := m) (aCons_run d1 rfl) (by omega)
  have hm : (c + 2) * (m : Int) ≤ (c + 2) * 3 := Int.mul_le_mul_of_nonneg_left (by omega) (by omega)
  obtain ⟨l', s4', ω', z1, z2, z3, z4⟩ := lTp_run (k := k) h0 hk hc ((List.range m).map fun (j : Nat) => D.int (j : Nat)) [] .emp ω1 (b + 1) (by rw [List.length_map, List.length_range]; show 0 + m < 1000; omega) (fun p h => nomatch h) d3 (by rw [List.length_map, List.length_range]; omega)
  rw [List.length_map, List.length_range] at z2 z4
  refine ⟨l', ω', runB_eq (ds := [.st, .int (k : Nat)]) ((sSeq_run p1).trans ((sSeq_run ((sFor_run ei).trans z1)).trans rfl)), ?_, z3, z4.le (by omega)⟩
  have : ([] : List (Str × Flt)).length = 0 := rfl
  omega
abbrev labsD : D := .lst [.str "a", .str "b", .str "c", .str "a", .str "b", .str "d"]
theorem six_lst : gLst [.str "a", .str "b", .str "c", .str "a", .str "b", .str "d"] = some labsD := gLst_ok (by show 6 ≤ sizeLine; decide)
theorem three_tup {a b c : D} : gTup [a, b, c] = some (.tup [a, b, c]) := gTup_ok (by show 3 ≤ sizeLine; decide)
end
/-- how many draws a drawn filter takes at most -/
def cst : Nat → Nat
  | 0 => 2
  | k + 1 => 3 * cst k + 10
theorem cst_pos : ∀ k, 2 ≤ cst k
  | 0 => Nat.le_refl _
  | k + 1 => by show 2 ≤ 3 * cst k + 10; omega
theorem cst_mono : ∀ k, cst 0 ≤ cst k := fun k => cst_pos k
theorem TF.up {F : List D → Om → Rs D} {k : Nat} {c c' : Int} (h : TF F k c) (hc : c ≤ c') : TF F k c' := fun ω b ht hb => by
  obtain ⟨f, ω', q1, q2, q3, q4⟩ := h ω b ht (by omega)
  exact ⟨f, ω', q1, q2, q3, q4.le (by omega)⟩
theorem cst_le : ∀ {j k : Nat}, j ≤ k → cst j ≤ cst k := by
  intro j k h
  induction h with
  | refl => exact Nat.le_refl _
  | step _ ih => exact Nat.le_trans ih (by show _ ≤ 3 * cst _ + 10; omega)
theorem tr_filter_all : ∀ (n k : Nat), k < n → TF (f_w_tr_filter n) k (cst k)
  | 0, _, h => absurd h (Nat.not_lt_zero _)
  | n + 1, k, h => fun ω b ht hb => by
    have c2 := cst_pos k
    suffices q : ∃ f ω', g_w_tr_filter (f_w_tr_filter n) (runB 5 (g_w_tr_path (f_w_tr_filter n))) [.val .st, .val (.int (k : Nat)), .emp] ω = .ok (.rt (enc f)) ω' ∧ wf f = true ∧ dep f ≤ k + 1 ∧ Tb (b + cst k) ω' by
      obtain ⟨f, ω', q1, q2⟩ := q
      exact ⟨f, ω', runB_eq (ds := [.st, .int (k : Nat)]) q1, q2⟩
    -- the way
    have hw : ∃ w ω1, (sSet 2 (eCall drawF (aCons (eVar 0) (aCons (eIf (DL.tB (eOp2 gGt (eVar 1) (eC (.int 0)))) (eC (.int 8)) (eC (.int 3))) aNil)))) [.val .st, .val (.int (k : Nat)), .emp] ω = .ok (.nx [.val .st, .val (.int (k : Nat)), .val (.int ((w : Nat) : Int))]) ω1 ∧ (w < 3 ∨ (0 < k ∧ w < 8)) ∧ Tb (b + 1) ω1 := by
      have g1 : gGt (.int (k : Nat)) (.int 0) = some (.bl (decide (0 < k))) := gGt_nat k 0
      by_cases hk : 0 < k
      · rw [decide_eq_true hk] at g1
        obtain ⟨w, ω1, d1, d2, d3⟩ := eDraw (δ := [.val .st, .val (.int (k : Nat)), .emp]) (fe := eIf (DL.tB (eOp2 gGt (eVar 1) (eC (.int 0)))) (eC (.int 8)) (eC (.int 3))) (n := 8) rfl (by simp only [sSeq, sIf, sSet, sRet, sNext, sExpr, sFor, sPar2, sRaise0, sBreak, sCont, sRetN, eOp2, eOp1, eOpN, eVar, eC, eIf, eAnd, eOr, eNot, DL.tB, tNot, tAnd, tOr, aCons, aNil, eCall, eSl, oNone, oSome, eChain, Rs.bind_ok, Rs.bind_err, rs1_some, List.getElem?_cons_zero, List.getElem?_cons_succ, List.set_cons_zero, List.set_cons_succ, Bool.not_true, Bool.not_false, Bool.false_eq_true, if_true, if_false, g1]; rfl) ht (by omega) (by decide) (by decide)
        exact ⟨w, ω1, sSet_run d1, .inr ⟨hk, d2⟩, d3⟩
      · rw [decide_eq_false hk] at g1
        obtain ⟨w, ω1, d1, d2, d3⟩ := eDraw (δ := [.val .st, .val (.int (k : Nat)), .emp]) (fe := eIf (DL.tB (eOp2 gGt (eVar 1) (eC (.int 0)))) (eC (.int 8)) (eC (.int 3))) (n := 3) rfl (by simp only [sSeq, sIf, sSet, sRet, sNext, sExpr, sFor, sPar2, sRaise0, sBreak, sCont, sRetN, eOp2, eOp1, eOpN, eVar, eC, eIf, eAnd, eOr, eNot, DL.tB, tNot, tAnd, tOr, aCons, aNil, eCall, eSl, oNone, oSome, eChain, Rs.bind_ok, Rs.bind_err, rs1_some, List.getElem?_cons_zero, List.getElem?_cons_succ, List.set_cons_zero, List.set_cons_succ, Bool.not_true, Bool.not_false, Bool.false_eq_true, if_true, if_false, g1]; rfl) ht (by omega) (by decide) (by decide)
        exact ⟨w, ω1, sSet_run d1, .inl d2, d3⟩
    obtain ⟨w, ω1, s1, hw, t1⟩ := hw
    unfold g_w_tr_filter
    rw [sSeq_run s1]
    have e0 : gEqX (.int ((w : Nat) : Int)) (.int 0) = some (.bl (decide (w = 0))) := gEqX_nat w 0
    have e3 : gLt (.int ((w : Nat) : Int)) (.int 3) = some (.bl (decide (w < 3))) := gLt_nat w 3
    have e3' : gEqX (.int ((w : Nat) : Int)) (.int 3) = some (.bl (decide (w = 3))) := gEqX_nat w 3
    have e6 : gLt (.int ((w : Nat) : Int)) (.int 6) = some (.bl (decide (w < 6))) := gLt_nat w 6
    by_cases w0 : w = 0
    · rw [decide_eq_true w0] at e0
      exact ⟨.tru, ω1, by simp only [sSeq, sIf, sSet, sRet, sNext, sExpr, sFor, sPar2, sRaise0, sBreak, sCont, sRetN, eOp2, eOp1, eOpN, eVar, eC, eIf, eAnd, eOr, eNot, DL.tB, tNot, tAnd, tOr, aCons, aNil, eCall, eSl, oNone, oSome, eChain, Rs.bind_ok, Rs.bind_err, rs1_some, List.getElem?_cons_zero, List.getElem?_cons_succ, List.set_cons_zero, List.set_cons_succ, Bool.not_true, Bool.not_false, Bool.false_eq_true, if_true, if_false, e0, one_tup]; rfl, rfl, by simp [dep], t1.le (by omega)⟩
    · rw [decide_eq_false w0] at e0
      by_cases w3 : w < 3
      · rw [decide_eq_true w3] at e3
        obtain ⟨y, ω2, p1, p2, p3⟩ := pick_step (d := labsD) (xs := [.str "a", .str "b", .str "c", .str "a", .str "b", .str "d"]) rfl t1 (by omega) (by decide) (by decide)
        obtain ⟨x, rfl, hx⟩ : ∃ x, y = .str x ∧ nmB x = true := by
          simp only [List.mem_cons, List.not_mem_nil, or_false] at p2
          rcases p2 with h | h | h | h | h | h <;> exact ⟨_, h, by decide +kernel⟩
        exact ⟨.lab x, ω2, by simp only [sSeq, sIf, sSet, sRet, sNext, sExpr, sFor, sPar2, sRaise0, sBreak, sCont, sRetN, eOp2, eOp1, eOpN, eVar, eC, eIf, eAnd, eOr, eNot, DL.tB, tNot, tAnd, tOr, aCons, aNil, eCall, eSl, oNone, oSome, eChain, Rs.bind_ok, Rs.bind_err, rs1_some, List.getElem?_cons_zero, List.getElem?_cons_succ, List.set_cons_zero, List.set_cons_succ, Bool.not_true, Bool.not_false, Bool.false_eq_true, if_true, if_false, e0, e3, six_lst, p1, two_tup]; rfl, hx, by simp [dep], p3.le (by omega)⟩
      · rw [decide_eq_false w3] at e3
        obtain ⟨hk, hw8⟩ : 0 < k ∧ w < 8 := by omega
        obtain ⟨k', rfl⟩ : ∃ k', k = k' + 1 := ⟨k - 1, by omega⟩
        have ih := tr_filter_all n k' (by omega)
        have hs : gSub (.int ((k' + 1 : Nat) : Int)) (.int 1) = some (.int ((k' : Nat) : Int)) := gSub_nat (k' + 1) 1 (by omega)
        have ec : (cst (k' + 1) : Int) = 3 * (cst k' : Int) + 10 := by show ((3 * cst k' + 10 : Nat) : Int) = _; omega
        by_cases v3 : w = 3
        · rw [decide_eq_true v3] at e3'
          obtain ⟨f, ω2, q1, q2, q3, q4⟩ := ih ω1 _ t1 (by omega)
          exact ⟨.no f, ω2, by simp only [sSeq, sIf, sSet, sRet, sNext, sExpr, sFor, sPar2, sRaise0, sBreak, sCont, sRetN, eOp2, eOp1, eOpN, eVar, eC, eIf, eAnd, eOr, eNot, DL.tB, tNot, tAnd, tOr, aCons, aNil, eCall, eSl, oNone, oSome, eChain, Rs.bind_ok, Rs.bind_err, rs1_some, List.getElem?_cons_zero, List.getElem?_cons_succ, List.set_cons_zero, List.set_cons_succ, Bool.not_true, Bool.not_false, Bool.false_eq_true, if_true, if_false, e0, e3, e3', hs, q1, two_tup]; rfl, q2, by simp only [dep]; omega, q4.le (by omega)⟩
        · rw [decide_eq_false v3] at e3'
          by_cases v6 : w < 6
          · rw [decide_eq_true v6] at e6
            obtain ⟨f, ω2, q1, q2, q3, q4⟩ := ih ω1 _ t1 (by omega)
            obtain ⟨g, ω3, r1, r2, r3, r4⟩ := ih ω2 _ q4 (by omega)
            have hw4 : gSub (.int ((w : Nat) : Int)) (.int 4) = some (.int ((w - 4 : Nat) : Int)) := gSub_nat w 4 (by omega)
            have h2 : w = 4 ∨ w = 5 := by omega
            rcases h2 with h2 | h2
            · have ix : gIx (.lst [.str "and", .str "or"]) (.int ((w - 4 : Nat) : Int)) = some (.str "and") := by rw [h2]; exact gIx_l0 _ _
              exact ⟨.an f g, ω3, by simp only [sSeq, sIf, sSet, sRet, sNext, sExpr, sFor, sPar2, sRaise0, sBreak, sCont, sRetN, eOp2, eOp1, eOpN, eVar, eC, eIf, eAnd, eOr, eNot, DL.tB, tNot, tAnd, tOr, aCons, aNil, eCall, eSl, oNone, oSome, eChain, Rs.bind_ok, Rs.bind_err, rs1_some, List.getElem?_cons_zero, List.getElem?_cons_succ, List.set_cons_zero, List.set_cons_succ, Bool.not_true, Bool.not_false, Bool.false_eq_true, if_true, if_false, e0, e3, e3', e6, two_lst, hw4, ix, hs, q1, r1, three_tup]; rfl, by simp only [wf, q2, r2]; rfl, by simp only [dep]; omega, r4.le (by omega)⟩
            · have ix : gIx (.lst [.str "and", .str "or"]) (.int ((w - 4 : Nat) : Int)) = some (.str "or") := by rw [h2]; exact gIx_l1 _ _ _
              exact ⟨.orr f g, ω3, by simp only [sSeq, sIf, sSet, sRet, sNext, sExpr, sFor, sPar2, sRaise0, sBreak, sCont, sRetN, eOp2, eOp1, eOpN, eVar, eC, eIf, eAnd, eOr, eNot, DL.tB, tNot, tAnd, tOr, aCons, aNil, eCall, eSl, oNone, oSome, eChain, Rs.bind_ok, Rs.bind_err, rs1_some, List.getElem?_cons_zero, List.getElem?_cons_succ, List.set_cons_zero, List.set_cons_succ, Bool.not_true, Bool.not_false, Bool.false_eq_true, if_true, if_false, e0, e3, e3', e6, two_lst, hw4, ix, hs, q1, r1, three_tup]; rfl, by simp only [wf, q2, r2]; rfl, by simp only [dep]; omega, r4.le (by omega)⟩
          · rw [decide_eq_false v6] at e6
            have h0 := (tr_filter_all n 0 (by omega)).up (c' := cst k') (by have := cst_mono k'; omega)
            have hk' : 0 < k' → TF (f_w_tr_filter n) (k' - 1) (cst k') := fun hp => (tr_filter_all n (k' - 1) (by omega)).up (by have := cst_le (show k' - 1 ≤ k' by omega); omega)
            obtain ⟨l, ω2, q1, q2, q3, q4⟩ := tr_path_run (k := k') h0 hk' (by omega) t1 (by omega)
            refine ⟨mkP l, ω2, ?_, mkP_wf l q2 (fun p hp => ⟨(q3 p hp).1, (q3 p hp).2.1⟩), mkP_dep l (fun p hp => (q3 p hp).2.2), q4.le (by omega)⟩
            rw [mkP_enc]
            simp only [sSeq, sIf, sSet, sRet, sNext, sExpr, sFor, sPar2, sRaise0, sBreak, sCont, sRetN, eOp2, eOp1, eOpN, eVar, eC, eIf, eAnd, eOr, eNot, DL.tB, tNot, tAnd, tOr, aCons, aNil, eCall, eSl, oNone, oSome, eChain, Rs.bind_ok, Rs.bind_err, rs1_some, List.getElem?_cons_zero, List.getElem?_cons_succ, List.set_cons_zero, List.set_cons_succ, Bool.not_true, Bool.not_false, Bool.false_eq_true, if_true, if_false, e0, e3, e3', e6, hs, q1, two_tup]
end K24

namespace K24
open PySem DL
open SX (S S_tl S_inj S_len S_cat)
/-! ### names with numbers -/
theorem dig_name : ∀ k < 10, 48 + k ∈ nameL := by decide +kernel
theorem num_name {n c : Nat} (h : c ∈ TL.numL n) : c ∈ nameL := by
  by_cases hc : c < 48 ∨ 57 < c
  · exact absurd h (TL.numL_free hc)
  · have := dig_name (c - 48) (by omega)
    rwa [show 48 + (c - 48) = c by omega] at this
theorem nmB_S {c : Nat} {r : List Nat} (h1 : r.length < 12) (h2 : c ∈ smallL) (h3 : c ∈ nameL) (h4 : ∀ s ∈ r, s ∈ nameL) : nmB (S (c :: r)) = true := by
  show (decide (r.length < 12) && decide (c ∈ smallL) && (c :: r).all fun s => decide (s ∈ nameL)) = true
  rw [decide_eq_true h1, decide_eq_true h2, Bool.true_and, Bool.true_and, List.all_eq_true]
  intro s hs
  rcases List.mem_cons.mp hs with rfl | hs
  · exact decide_eq_true h3
  · exact decide_eq_true (h4 s hs)
theorem sml : 122 ∈ smallL ∧ 122 ∈ nameL ∧ 110 ∈ smallL ∧ 110 ∈ nameL ∧ 95 ∈ nameL := by decide +kernel
def zS (t : Nat) : Str := S (122 :: TL.numL t)
def nS (t : Nat) : Str := S (110 :: TL.numL t)
def nnS (t l a : Nat) : Str := S (110 :: (TL.numL t ++ [95] ++ TL.numL l ++ [95] ++ TL.numL a))
theorem zS_nm {t : Nat} (h : t < 1000) : nmB (zS t) = true := by
  have := TL.numL_len (n := t) (k := 3) (by decide) (by omega)
  exact nmB_S (by omega) sml.1 sml.2.1 fun s hs => num_name hs
theorem nS_nm {t : Nat} (h : t < 1000) : nmB (nS t) = true := by
  have := TL.numL_len (n := t) (k := 3) (by decide) (by omega)
  exact nmB_S (by omega) sml.2.2.1 sml.2.2.2.1 fun s hs => num_name hs
theorem nnS_nm {t l a : Nat} (h : t < 1000) (h2 : l < 10) (h3 : a < 10) : nmB (nnS t l a) = true := by
  have := TL.numL_len (n := t) (k := 3) (by decide) (by omega)
  have := TL.numL_len (n := l) (k := 1) (by decide) (by omega)
  have := TL.numL_len (n := a) (k := 1) (by decide) (by omega)
  refine nmB_S (by simp only [List.length_append, List.length_singleton]; omega) sml.2.2.1 sml.2.2.2.1 fun s hs => ?_
  simp only [List.mem_append, List.mem_singleton] at hs
  rcases hs with (((hs | hs) | hs) | hs) | hs
  · exact num_name hs
  · rw [hs]; exact sml.2.2.2.2
  · exact num_name hs
  · rw [hs]; exact sml.2.2.2.2
  · exact num_name hs
/-! ### great filters -/
def nots : Nat → Flt → Flt
  | 0, f => f
  | n + 1, f => nots n (.no f)
theorem nots_p : ∀ (n : Nat) (f : Flt), wf (nots n f) = wf f ∧ dep (nots n f) = dep f + n ∧ nod (nots n f) = nod f + n
  | 0, f => ⟨rfl, rfl, rfl⟩
  | n + 1, f => by
    obtain ⟨h1, h2, h3⟩ := nots_p n (.no f)
    exact ⟨h1, by show dep (nots n (.no f)) = _; rw [h2]; simp only [dep]; omega, by show nod (nots n (.no f)) = _; rw [h3]; simp only [nod]; omega⟩
abbrev bNot : EvS := sSet 2 (eOpN gTup (aCons (eC (.str "not")) (aCons (eVar 2) aNil)))
theorem lNot_run {v t s4 s5 s6 s7 : Sl} {ω : Om} : ∀ (ds : List D) (f : Flt) (s3 : Sl), ∃ s3', loopF (gdName 3) bNot ds [v, t, .val (enc f), s3, s4, s5, s6, s7] ω = .ok (.nx [v, t, .val (enc (nots ds.length f)), s3', s4, s5, s6, s7]) ω
  | [], f, s3 => ⟨s3, rfl⟩
  | d :: ds, f, s3 => by
    obtain ⟨s3', z⟩ := lNot_run (v := v) (t := t) (s4 := s4) (s5 := s5) (s6 := s6) (s7 := s7) (ω := ω) ds (.no f) (.val d)
    refine ⟨s3', ?_⟩
    have b : bNot [v, t, .val (enc f), .val d, s4, s5, s6, s7] ω = .ok (.nx [v, t, .val (enc (.no f)), .val d, s4, s5, s6, s7]) ω := by
      simp only [bNot, sSeq, sIf, sSet, sRet, sNext, sExpr, sFor, sPar2, sRaise0, sBreak, sCont, sRetN, eOp2, eOp1, eOpN, eVar, eC, eIf, eAnd, eOr, eNot, DL.tB, tNot, tAnd, tOr, aCons, aNil, eCall, eSl, oNone, oSome, eChain, Rs.bind_ok, Rs.bind_err, rs1_some, List.getElem?_cons_zero, List.getElem?_cons_succ, List.set_cons_zero, List.set_cons_succ, Bool.not_true, Bool.not_false, Bool.false_eq_true, if_true, if_false, two_tup]
      rfl
    rw [List.length_cons]
    exact (loopF_step (δ1 := [v, t, .val (enc f), .val d, s4, s5, s6, s7]) rfl b).trans z
def rowF (a : Str) (t l : Nat) : Flt := mkP ((List.range 8).map fun j => (a, .lab (nnS t l j)))
theorem rowF_p {a : Str} {t l : Nat} (ha : axB a = true) (ht : t < 1000) (hl : l < 10) : wf (rowF a t l) = true ∧ dep (rowF a t l) ≤ 2 ∧ nod (rowF a t l) = 17 := by
  refine ⟨mkP_wf _ (by simp) fun p hp => ?_, mkP_dep _ fun p hp => ?_, ?_⟩
  · obtain ⟨j, hj, rfl⟩ := List.mem_map.mp hp
    exact ⟨ha, nnS_nm ht hl (by have := List.mem_range.mp hj; omega)⟩
  · obtain ⟨j, hj, rfl⟩ := List.mem_map.mp hp
    exact Nat.le_refl _
  · have := mkP_nod (k := 1) ((List.range 8).map fun j => (a, Flt.lab (nnS t l j))) fun p hp => by
      obtain ⟨j, hj, rfl⟩ := List.mem_map.mp hp
      rfl
    unfold rowF
    rw [this, List.length_map, List.length_range]
abbrev bRow : EvS := sSeq (sSet 5 (eCall pickF (aCons (eVar 0) (aCons (eOpN gLst (aCons (eC (.str "self")) (aCons (eC (.str "child")) (aCons (eC (.str "below")) aNil)))) aNil)))) (sSeq (sSet 6 (eComp (iRange (aCons (eC (.int 8)) aNil)) (gdName 7) tTrue (eOpN gTup (aCons (eVar 5) (aCons (eOpN gTup (aCons (eC (.str "label")) (aCons (eOp2 gAdd (eOp2 gAdd (eOp2 gAdd (eOp2 gAdd (eOp2 gAdd (eC (.str "n")) (eOpN gStrI (aCons (eVar 1) aNil))) (eC (.str "_"))) (eOpN gStrI (aCons (eVar 3) aNil))) (eC (.str "_"))) (eOpN gStrI (aCons (eVar 7) aNil))) aNil))) aNil))) [7])) (sApp 4 (eOpN gTup (aCons (eC (.str "some")) (aCons (eOpN gTuple (aCons (eVar 6) aNil)) aNil)))))
theorem gTuple_l (ds : List D) : gTuple [.lst ds] = some (.tup ds) := rfl
theorem axs_lst : gLst [.str "self", .str "child", .str "below"] = some (.lst [.str "self", .str "child", .str "below"]) := gLst_ok (by show 3 ≤ sizeLine; decide)
theorem bRow_run {v s5 s6 : Sl} {t l : Nat} {rows : List D} {ω : Om} {b : Int} (ht : t < 1000) (hl : l < 10) (hr : rows.length < 100) (h : Tb b ω) (hb : b < 2 ^ 39) :
    ∃ a s6' ω', bRow [.val .st, .val (.int (t : Nat)), v, .val (.int (l : Nat)), .own rows, s5, s6, .emp] ω = .ok (.nx [.val .st, .val (.int (t : Nat)), v, .val (.int (l : Nat)), .own (rows ++ [enc (rowF a t l)]), .val (.str a), s6', .emp]) ω' ∧ axB a = true ∧ Tb (b + 1) ω' := by
  have hz : sizeLine = 16777216 := rfl
  obtain ⟨y, ω1, p1, p2, p3⟩ := pick_step (d := .lst [.str "self", .str "child", .str "below"]) (xs := [.str "self", .str "child", .str "below"]) rfl h (by omega) (by decide) (by decide)
  obtain ⟨a, rfl, ha⟩ : ∃ a, y = .str a ∧ axB a = true := by
    simp only [List.mem_cons, List.not_mem_nil, or_false] at p2
    rcases p2 with h | h | h <;> exact ⟨_, h, by decide +kernel⟩
  have r1 : sSet 5 (eCall pickF (aCons (eVar 0) (aCons (eOpN gLst (aCons (eC (.str "self")) (aCons (eC (.str "child")) (aCons (eC (.str "below")) aNil)))) aNil))) [.val .st, .val (.int (t : Nat)), v, .val (.int (l : Nat)), .own rows, s5, s6, .emp] ω = .ok (.nx [.val .st, .val (.int (t : Nat)), v, .val (.int (l : Nat)), .own rows, .val (.str a), s6, .emp]) ω1 := by
    simp only [sSeq, sIf, sSet, sRet, sNext, sExpr, sFor, sPar2, sRaise0, sBreak, sCont, sRetN, eOp2, eOp1, eOpN, eVar, eC, eIf, eAnd, eOr, eNot, DL.tB, tNot, tAnd, tOr, aCons, aNil, eCall, eSl, oNone, oSome, eChain, Rs.bind_ok, Rs.bind_err, rs1_some, List.getElem?_cons_zero, List.getElem?_cons_succ, List.set_cons_zero, List.set_cons_succ, Bool.not_true, Bool.not_false, Bool.false_eq_true, if_true, if_false, axs_lst, p1]
  have lt := TL.numL_len (n := t) (k := 3) (by decide) (by omega)
  have ll := TL.numL_len (n := l) (k := 1) (by decide) (by omega)
  have c1 : compF (gdName 7) tTrue (eOpN gTup (aCons (eVar 5) (aCons (eOpN gTup (aCons (eC (.str "label")) (aCons (eOp2 gAdd (eOp2 gAdd (eOp2 gAdd (eOp2 gAdd (eOp2 gAdd (eC (.str "n")) (eOpN gStrI (aCons (eVar 1) aNil))) (eC (.str "_"))) (eOpN gStrI (aCons (eVar 3) aNil))) (eC (.str "_"))) (eOpN gStrI (aCons (eVar 7) aNil))) aNil))) aNil))) [.val .st, .val (.int (t : Nat)), v, .val (.int (l : Nat)), .own rows, .val (.str a), s6, .emp] ((List.range 8).map fun (j : Nat) => D.int (j : Nat)) ω1 = .ok ((List.range 8).map fun j => stepD (a, .lab (nnS t l j))) ω1 := by
    refine compF_map (fun (j : Nat) => D.int (j : Nat)) (fun j => stepD (a, .lab (nnS t l j))) (List.range 8) fun j hj => ⟨[.val .st, .val (.int (t : Nat)), v, .val (.int (l : Nat)), .own rows, .val (.str a), s6, .val (.int (j : Nat))], rfl, ?_⟩
    have hj' := List.mem_range.mp hj
    have lj := TL.numL_len (n := j) (k := 1) (by decide) (by omega)
    have g1 := gStr_nat (n := t) (by omega)
    have g2 := gStr_nat (n := l) (by omega)
    have g3 := gStr_nat (n := j) (by omega)
    have en : ("n" : Str) = S [110] := by decide +kernel
    have eu : ("_" : Str) = S [95] := by decide +kernel
    have a1 : gAdd (.str (S [110])) (.str (S (TL.numL t))) = some (.str (S ([110] ++ TL.numL t))) := gAdd_S (by simp only [List.length_singleton]; omega)
    have a2 : gAdd (.str (S ([110] ++ TL.numL t))) (.str (S [95])) = some (.str (S ([110] ++ TL.numL t ++ [95]))) := gAdd_S (by simp only [List.length_append, List.length_singleton]; omega)
    have a3 : gAdd (.str (S ([110] ++ TL.numL t ++ [95]))) (.str (S (TL.numL l))) = some (.str (S ([110] ++ TL.numL t ++ [95] ++ TL.numL l))) := gAdd_S (by simp only [List.length_append, List.length_singleton]; omega)
    have a4 : gAdd (.str (S ([110] ++ TL.numL t ++ [95] ++ TL.numL l))) (.str (S [95])) = some (.str (S ([110] ++ TL.numL t ++ [95] ++ TL.numL l ++ [95]))) := gAdd_S (by simp only [List.length_append, List.length_singleton]; omega)
    have a5 : gAdd (.str (S ([110] ++ TL.numL t ++ [95] ++ TL.numL l ++ [95]))) (.str (S (TL.numL j))) = some (.str (S ([110] ++ TL.numL t ++ [95] ++ TL.numL l ++ [95] ++ TL.numL j))) := gAdd_S (by simp only [List.length_append, List.length_singleton]; omega)
    have ee : S ([110] ++ TL.numL t ++ [95] ++ TL.numL l ++ [95] ++ TL.numL j) = nnS t l j := rfl
    rw [en, eu]
    simp only [sSeq, sIf, sSet, sRet, sNext, sExpr, sFor, sPar2, sRaise0, sBreak, sCont, sRetN, eOp2, eOp1, eOpN, eVar, eC, eIf, eAnd, eOr, eNot, DL.tB, tNot, tAnd, tOr, aCons, aNil, eCall, eSl, oNone, oSome, eChain, Rs.bind_ok, Rs.bind_err, rs1_some, List.getElem?_cons_zero, List.getElem?_cons_succ, List.set_cons_zero, List.set_cons_succ, Bool.not_true, Bool.not_false, Bool.false_eq_true, if_true, if_false, g1, g2, g3, a1, a2, a3, a4, a5, two_tup, ee]
    rfl
  have c2 := eComp_run (vs := [7]) (δ := [.val .st, .val (.int (t : Nat)), v, .val (.int (l : Nat)), .own rows, .val (.str a), s6, .emp]) (f := iRange (aCons (eC (.int 8)) aNil)) (ω := ω1) (ω1 := ω1) (range_run (k := 8) rfl (by decide)) c1
  have r2 := sSet_run (i := 6) c2
  refine ⟨a, .val (.lst ((List.range 8).map fun j => stepD (a, .lab (nnS t l j)))), ω1, (sSeq_run r1).trans ((sSeq_run r2).trans ?_), ha, p3⟩
  have ee : D.tup [.str "some", .tup ((List.range 8).map fun j => stepD (a, .lab (nnS t l j)))] = enc (rowF a t l) := by
    unfold rowF
    rw [mkP_enc, List.map_map]
    rfl
  unfold sApp
  simp only [sSeq, sIf, sSet, sRet, sNext, sExpr, sFor, sPar2, sRaise0, sBreak, sCont, sRetN, eOp2, eOp1, eOpN, eVar, eC, eIf, eAnd, eOr, eNot, DL.tB, tNot, tAnd, tOr, aCons, aNil, eCall, eSl, oNone, oSome, eChain, Rs.bind_ok, Rs.bind_err, rs1_some, List.getElem?_cons_zero, List.getElem?_cons_succ, List.set_cons_zero, List.set_cons_succ, Bool.not_true, Bool.not_false, Bool.false_eq_true, if_true, if_false, gTuple_l, two_tup, show rows.length < sizeLine by omega, ee]
theorem great_run {t : Nat} {ω : Om} {b : Int} (ht : t < 1000) (h : Tb b ω) (hb : b + 10 < 2 ^ 39) : ∃ f ω', f_w_k24_great [.st, .int (t : Nat)] ω = .ok (enc f) ω' ∧ wf f = true ∧ dep f ≤ 13 ∧ Tb (b + 10) ω' := by
  suffices q : ∃ f ω', g_w_k24_great [.val .st, .val (.int (t : Nat)), .emp, .emp, .emp, .emp, .emp, .emp] ω = .ok (.rt (enc f)) ω' ∧ wf f = true ∧ dep f ≤ 13 ∧ Tb (b + 10) ω' by
    obtain ⟨f, ω', q1, q2⟩ := q
    exact ⟨f, ω', runB_eq (ds := [.st, .int (t : Nat)]) q1, q2⟩
  have lt := TL.numL_len (n := t) (k := 3) (by decide) (by omega)
  have hz : sizeLine = 16777216 := rfl
  have s1 : sSet 2 (eOpN gTup (aCons (eC (.str "label")) (aCons (eOp2 gAdd (eC (.str "z")) (eOpN gStrI (aCons (eVar 1) aNil))) aNil))) [.val .st, .val (.int (t : Nat)), .emp, .emp, .emp, .emp, .emp, .emp] ω = .ok (.nx [.val .st, .val (.int (t : Nat)), .val (enc (.lab (zS t))), .emp, .emp, .emp, .emp, .emp]) ω := by
    have g1 := gStr_nat (n := t) (by omega)
    have en : ("z" : Str) = S [122] := by decide +kernel
    have a1 : gAdd (.str (S [122])) (.str (S (TL.numL t))) = some (.str (S ([122] ++ TL.numL t))) := gAdd_S (by simp only [List.length_singleton]; omega)
    rw [en]
    simp only [sSeq, sIf, sSet, sRet, sNext, sExpr, sFor, sPar2, sRaise0, sBreak, sCont, sRetN, eOp2, eOp1, eOpN, eVar, eC, eIf, eAnd, eOr, eNot, DL.tB, tNot, tAnd, tOr, aCons, aNil, eCall, eSl, oNone, oSome, eChain, Rs.bind_ok, Rs.bind_err, rs1_some, List.getElem?_cons_zero, List.getElem?_cons_succ, List.set_cons_zero, List.set_cons_succ, Bool.not_true, Bool.not_false, Bool.false_eq_true, if_true, if_false, g1, a1, two_tup]
    rfl
  have wz : wf (.lab (zS t)) = true := zS_nm ht
  obtain ⟨m, ω1, d1, d2, d3⟩ := eDrawC (δ := [.val .st, .val (.int (t : Nat)), .val (enc (.lab (zS t))), .emp, .emp, .emp, .emp, .emp]) 3 rfl h (by omega) (by decide) (by decide)
  have d1' : eCall drawF (aCons (eVar 0) (aCons (eC (.int 3)) aNil)) [.val .st, .val (.int (t : Nat)), .val (enc (.lab (zS t))), .emp, .emp, .emp, .emp, .emp] ω = .ok (.int (m : Nat)) ω1 := d1
  have k0 : gEqX (.int (m : Nat)) (.int 0) = some (.bl (decide (m = 0))) := gEqX_nat m 0
  have c0 : (DL.tB (eOp2 gEqX (eCall drawF (aCons (eVar 0) (aCons (eC (.int 3)) aNil))) (eC (.int 0)))) [.val .st, .val (.int (t : Nat)), .val (enc (.lab (zS t))), .emp, .emp, .emp, .emp, .emp] ω = .ok (decide (m = 0)) ω1 := by
    simp only [DL.tB, eOp2, eC, d1', Rs.bind_ok, k0, rs1_some]
  unfold g_w_k24_great
  rw [sSeq_run s1]
  by_cases hm : m = 0
  · rw [decide_eq_true hm] at c0
    obtain ⟨q, ω2, e1, e2, e3⟩ := eDrawC (δ := [.val .st, .val (.int (t : Nat)), .val (enc (.lab (zS t))), .emp, .emp, .emp, .emp, .emp]) 3 rfl d3 (by omega) (by decide) (by decide)
    have e1' : eCall drawF (aCons (eVar 0) (aCons (eC (.int 3)) aNil)) [.val .st, .val (.int (t : Nat)), .val (enc (.lab (zS t))), .emp, .emp, .emp, .emp, .emp] ω1 = .ok (.int (q : Nat)) ω2 := e1
    have a1 : gAdd (.int 10) (.int (q : Nat)) = some (.int ((10 + q : Nat) : Int)) := gAdd_nat 10 q
    have ei : iRange (aCons (eOp2 gAdd (eC (.int 10)) (eCall drawF (aCons (eVar 0) (aCons (eC (.int 3)) aNil)))) aNil) [.val .st, .val (.int (t : Nat)), .val (enc (.lab (zS t))), .emp, .emp, .emp, .emp, .emp] ω1 = .ok ((List.range (10 + q)).map fun (j : Nat) => D.int (j : Nat)) ω2 := by
      refine range_run (k := 10 + q) (aCons_run ?_ rfl) (by omega)
      simp only [eOp2, eC, Rs.bind_ok, e1', a1, rs1_some]
    obtain ⟨s3', z⟩ := lNot_run (v := .val .st) (t := .val (.int (t : Nat))) (s4 := .emp) (s5 := .emp) (s6 := .emp) (s7 := .emp) (ω := ω2) ((List.range (10 + q)).map fun (j : Nat) => D.int (j : Nat)) (.lab (zS t)) .emp
    rw [List.length_map, List.length_range] at z
    obtain ⟨n1, n2, n3⟩ := nots_p (10 + q) (.lab (zS t))
    refine ⟨nots (10 + q) (.lab (zS t)), ω2, sSeq_rt ((sIf_t c0).trans ((sSeq_run ((sFor_run ei).trans z)).trans rfl)), by rw [n1]; exact wz, by rw [n2]; simp only [dep]; omega, e3.le (by omega)⟩
  · rw [decide_eq_false hm] at c0
    rw [sSeq_run ((sIf_f c0).trans rfl)]
    obtain ⟨q, ω2, e1, e2, e3⟩ := eDrawC (δ := [.val .st, .val (.int (t : Nat)), .val (enc (.lab (zS t))), .emp, .emp, .emp, .emp, .emp]) 4 rfl d3 (by omega) (by decide) (by decide)
    have e1' : eCall drawF (aCons (eVar 0) (aCons (eC (.int 4)) aNil)) [.val .st, .val (.int (t : Nat)), .val (enc (.lab (zS t))), .emp, .emp, .emp, .emp, .emp] ω1 = .ok (.int (q : Nat)) ω2 := e1
    have a1 : gAdd (.int 3) (.int (q : Nat)) = some (.int ((3 + q : Nat) : Int)) := gAdd_nat 3 q
    have ei : iRange (aCons (eOp2 gAdd (eC (.int 3)) (eCall drawF (aCons (eVar 0) (aCons (eC (.int 4)) aNil)))) aNil) [.val .st, .val (.int (t : Nat)), .val (enc (.lab (zS t))), .emp, .emp, .emp, .emp, .emp] ω1 = .ok ((List.range (3 + q)).map fun (j : Nat) => D.int (j : Nat)) ω2 := by
      refine range_run (k := 3 + q) (aCons_run ?_ rfl) (by omega)
      simp only [eOp2, eC, Rs.bind_ok, e1', a1, rs1_some]
    obtain ⟨s3', z⟩ := lNot_run (v := .val .st) (t := .val (.int (t : Nat))) (s4 := .emp) (s5 := .emp) (s6 := .emp) (s7 := .emp) (ω := ω2) ((List.range (3 + q)).map fun (j : Nat) => D.int (j : Nat)) (.lab (zS t)) .emp
    rw [List.length_map, List.length_range] at z
    obtain ⟨n1, n2, n3⟩ := nots_p (3 + q) (.lab (zS t))
    rw [sSeq_run ((sFor_run ei).trans z)]
    generalize nots (3 + q) (.lab (zS t)) = one at *
    have r0 : sNew 4 aNil [.val .st, .val (.int (t : Nat)), .val (enc one), s3', .emp, .emp, .emp, .emp] ω2 = .ok (.nx [.val .st, .val (.int (t : Nat)), .val (enc one), s3', .own [], .emp, .emp, .emp]) ω2 := rfl
    rw [sSeq_run r0]
    have ei2 : iRange (aCons (eC (.int 3)) aNil) [.val .st, .val (.int (t : Nat)), .val (enc one), s3', .own [], .emp, .emp, .emp] ω2 = .ok [.int ((0 : Nat) : Int), .int ((1 : Nat) : Int), .int ((2 : Nat) : Int)] ω2 := range_run (k := 3) rfl (by decide)
    obtain ⟨x1, s61, ω3, b1, b2, b3⟩ := bRow_run (v := .val (enc one)) (s5 := .emp) (s6 := .emp) (t := t) (l := 0) (rows := []) ht (by decide) (by decide) e3 (by omega)
    obtain ⟨x2, s62, ω4, b4, b5, b6⟩ := bRow_run (v := .val (enc one)) (s5 := .val (.str x1)) (s6 := s61) (t := t) (l := 1) (rows := [] ++ [enc (rowF x1 t 0)]) ht (by decide) (by show 1 < 100; decide) b3 (by omega)
    obtain ⟨x3, s63, ω5, b7, b8, b9⟩ := bRow_run (v := .val (enc one)) (s5 := .val (.str x2)) (s6 := s62) (t := t) (l := 2) (rows := [] ++ [enc (rowF x1 t 0)] ++ [enc (rowF x2 t 1)]) ht (by decide) (by show 2 < 100; decide) b6 (by omega)
    have lp : loopF (gdName 3) bRow [.int ((0 : Nat) : Int), .int ((1 : Nat) : Int), .int ((2 : Nat) : Int)] [.val .st, .val (.int (t : Nat)), .val (enc one), s3', .own [], .emp, .emp, .emp] ω2 = .ok (.nx [.val .st, .val (.int (t : Nat)), .val (enc one), .val (.int ((2 : Nat) : Int)), .own ([] ++ [enc (rowF x1 t 0)] ++ [enc (rowF x2 t 1)] ++ [enc (rowF x3 t 2)]), .val (.str x3), s63, .emp]) ω5 :=
      (loopF_step (δ1 := [.val .st, .val (.int (t : Nat)), .val (enc one), .val (.int ((0 : Nat) : Int)), .own [], .emp, .emp, .emp]) rfl b1).trans ((loopF_step (δ1 := [.val .st, .val (.int (t : Nat)), .val (enc one), .val (.int ((1 : Nat) : Int)), .own ([] ++ [enc (rowF x1 t 0)]), .val (.str x1), s61, .emp]) rfl b4).trans ((loopF_step (δ1 := [.val .st, .val (.int (t : Nat)), .val (enc one), .val (.int ((2 : Nat) : Int)), .own ([] ++ [enc (rowF x1 t 0)] ++ [enc (rowF x2 t 1)]), .val (.str x2), s62, .emp]) rfl b7).trans rfl))
    obtain ⟨u1, u2, u3⟩ := rowF_p (t := t) (l := 0) b2 ht (by decide)
    obtain ⟨u4, u5, u6⟩ := rowF_p (t := t) (l := 1) b5 ht (by decide)
    obtain ⟨u7, u8, u9⟩ := rowF_p (t := t) (l := 2) b8 ht (by decide)
    rw [sSeq_run ((sFor_run ei2).trans lp)]
    have i0 := gIx_l0 (enc (rowF x1 t 0)) [enc (rowF x2 t 1), enc (rowF x3 t 2)]
    have i1 := gIx_l1 (enc (rowF x1 t 0)) (enc (rowF x2 t 1)) [enc (rowF x3 t 2)]
    have i2 := gIx_l2 (enc (rowF x1 t 0)) (enc (rowF x2 t 1)) (enc (rowF x3 t 2)) []
    refine ⟨.orr (.an (rowF x1 t 0) (.orr (rowF x2 t 1) (rowF x3 t 2))) one, ω5, ?_, ?_, ?_, b9.le (by omega)⟩
    · have ea : [] ++ [enc (rowF x1 t 0)] ++ [enc (rowF x2 t 1)] ++ [enc (rowF x3 t 2)] = [enc (rowF x1 t 0), enc (rowF x2 t 1), enc (rowF x3 t 2)] := rfl
      unfold frz
      simp only [List.getElem?_cons_zero, List.getElem?_cons_succ, List.set_cons_zero, List.set_cons_succ, ea, sRet, eOpN, eOp2, aCons, aNil, eC, eVar, Rs.bind_ok, rs1_some, i0, i1, i2, three_tup]
      rfl
    · simp only [wf, u1, u4, u7, n1, wz, Bool.and_self]
      exact wz
    · simp only [dep] at n2 ⊢
      omega
end K24

namespace K24
open PySem DL
open SX (S S_tl S_inj S_len S_cat)
/-! ### the law -/
abbrev P3 : EvS := sApp 3 (eIf (DL.tB (eVar 2)) (eCall f_w_k24_great (aCons (eVar 1) (aCons (eVar 4) aNil))) (eCall (f_w_tr_filter 5) (aCons (eVar 1) (aCons (eCall drawF (aCons (eVar 1) (aCons (eC (.int 4)) aNil))) aNil))))
abbrev P4 : EvS := sIf (DL.tB (eOp2 gEqX (eCall drawF (aCons (eVar 1) (aCons (eC (.int 3)) aNil))) (eC (.int 0)))) (sApp 3 (ePeek 3 (eOp2 gIx (eVar 3) (eC (.int 0))))) sNext
abbrev Q1 : EvT := DL.tB (eOpN (gIsc kb) (aCons (eCaught isx (eCall f_demands_of (aCons (eVar 3) aNil))) (aCons (eC (.glo "BadFilter")) aNil)))
abbrev Q2 : EvE := eOpN (gIsc kb) (aCons (eCaught isx (eCall f_needs_of (aCons (eVar 5) aNil))) (aCons (eC (.glo "BadFilter")) aNil))
abbrev Q3 : EvT := DL.tB (eCall (f_w_fp_same 64) (aCons (eCall f_needs_of (aCons (eVar 5) aNil)) (aCons (eOpN gTuple (aCons (eCall f_w_fp_needs (aCons (eVar 5) aNil)) aNil)) aNil)))
abbrev P6 : EvS := sSeq (sIf (DL.tB (eOp2 gGt (eCall (f_w_k24_nodes 14) (aCons (eVar 5) (aCons (eC (.int 12)) aNil))) (eC (.int 60)))) (sSeq (sIf (tNot Q1) (sRet (eC (.bl false))) sNext) (sRet Q2)) sNext) (sIf (tNot Q3) (sRet (eC (.bl false))) sNext)
abbrev P8 : EvS := sIf (tOr (tNot (DL.tB (eCall (f_w_fp_same 64) (aCons (eCall f_demands_of (aCons (eVar 3) aNil)) (aCons (eVar 6) aNil))))) (tNot (DL.tB (eCall f_w_is_truth (aCons (eCall f_is_demands (aCons (eVar 6) aNil)) (aCons (eC (.bl true)) aNil)))))) (sRet (eC (.bl false))) sNext
abbrev B9 : EvS := sSeq (sSet 7 (eCall (f_w_bent 48) (aCons (eVar 1) (aCons (eVar 6) aNil)))) (sIf (tNot (DL.tB (eCall f_w_is_truth (aCons (eCall f_is_demands (aCons (eVar 7) aNil)) (aCons (eCall f_w_k24_is (aCons (eVar 7) aNil)) aNil))))) (sRet (eC (.bl false))) sNext)
abbrev P9a : EvS := sIf (tNot (DL.tB (eCall f_w_is_truth (aCons (eCall f_is_demands (aCons (eCall f_w_k24_exchanged (aCons (eVar 1) (aCons (eVar 6) aNil))) aNil)) (aCons (eC (.bl true)) aNil))))) (sRet (eC (.bl false))) sNext
abbrev P9 : EvS := sIf (DL.tB (eOp2 gLeA (eOpN gLen (aCons (eVar 6) aNil)) (eC (.int 60)))) (sSeq P9a (sFor (iRange (aCons (eC (.int 3)) aNil)) (gdName 4) B9)) sNext
abbrev L10 : EvE := eOpN gTup (aCons (eC (.str "label")) (aCons (eOp2 gAdd (eC (.str "n")) (eOpN gStrI (aCons (eVar 9) aNil))) aNil))
abbrev P10b : EvS := sIf (tNot (DL.tB (eCall f_w_is_truth (aCons (eCall f_is_demands (aCons (eVar 8) aNil)) (aCons (eOp2 gEqX (eOpN gLen (aCons (eVar 8) aNil)) (eC (.int 800))) aNil))))) (sRet (eC (.bl false))) sNext
abbrev P10 : EvS := sIf (DL.tB (eOp2 gEqX (eCall drawF (aCons (eVar 1) (aCons (eC (.int 6)) aNil))) (eC (.int 0)))) (sSeq (sSet 8 (eOpN gTuple (aCons (eComp (iRange (aCons (eOp2 gAdd (eC (.int 800)) (eCall drawF (aCons (eVar 1) (aCons (eC (.int 2)) aNil)))) aNil)) (gdName 9) tTrue L10 [9]) aNil))) P10b) sNext
abbrev L11 : EvA := aCons (eOpN gTup aNil) (aCons (eOpN gList (aCons (eVar 3) aNil)) (aCons (eOp2 gAdd (eVar 3) (eOpN gTup (aCons (eC .non) aNil))) (aCons (eOp2 gRepT (eOpN gTup (aCons (eOp2 gIx (eVar 3) (eC (.int 0))) aNil)) (eC (.int 13))) (aCons (eC .non) (aCons (eOpN gTup (aCons (eC (.str "true")) aNil)) (aCons (eOp2 gAdd (eVar 3) (eOpN gTup (aCons (eOpN gTup (aCons (eC (.str "label")) (aCons (eC (.str "B")) aNil))) aNil))) aNil))))))
abbrev P11 : EvS := sSet 10 (eCall pickF (aCons (eVar 1) (aCons (eOpN gLst L11) aNil)))
abbrev P12 : EvS := sIf (tNot (DL.tB (eOpN (gIsc kb) (aCons (eCaught isx (eCall f_demands_of (aCons (eVar 10) aNil))) (aCons (eC (.glo "BadFilter")) aNil))))) (sRet (eC (.bl false))) sNext
abbrev L13 : EvA := aCons (eC .non) (aCons (eOpN gTup aNil) (aCons (eOpN gTup (aCons (eC (.str "label")) aNil)) (aCons (eOpN gLst (aCons (eC (.str "true")) aNil)) (aCons (eOpN gTup (aCons (eC (.str "some")) (aCons (eOpN gTup (aCons (eOpN gTup (aCons (eC (.str "up")) (aCons (eOpN gTup (aCons (eC (.str "true")) aNil)) aNil))) aNil)) aNil))) aNil))))
abbrev P13 : EvS := sRet (eOpN (gIsc kb) (aCons (eCaught isx (eCall f_needs_of (aCons (eCall pickF (aCons (eVar 1) (aCons (eOpN gLst L13) aNil))) aNil))) (aCons (eC (.glo "BadFilter")) aNil)))
abbrev R8 : EvS := sSeq P8 (sSeq P9 (sSeq P10 (sSeq P11 (sSeq P12 P13))))
abbrev R5 : EvS := sSeq (sSet 3 (eOpN gTuple (aCons (eVar 3) aNil))) (sSeq (sFor (iAny (eVar 3)) (gdName 5) P6) (sSeq (sSet 6 (eCall f_w_fp_demands (aCons (eVar 3) aNil))) R8))
theorem g_law_eq : g_law = sSeq (sSet 2 (eOp2 gEqX (eCall drawF (aCons (eVar 1) (aCons (eC (.int 6)) aNil))) (eC (.int 0)))) (sSeq (sNew 3 aNil) (sSeq (sFor (iRange (aCons (eOp2 gAdd (eC (.int 1)) (eCall drawF (aCons (eVar 1) (aCons (eC (.int 11)) aNil)))) aNil)) (gdName 4) P3) (sSeq P4 (frz 3 R5)))) := rfl
def WF (f : Flt) : Prop := wf f = true ∧ dep f ≤ 13
section
variable {s0 s2 s3 s4 s5 s6 s7 s8 s9 s10 : Sl} {ω : Om} {b : Int}
abbrev sl (s0 s2 s3 s4 s5 s6 s7 s8 s9 s10 : Sl) : Sls := [s0, .val .st, s2, s3, s4, s5, s6, s7, s8, s9, s10]
theorem c3 : (cst 3 : Int) = 184 := rfl
theorem P3_run {g : Bool} {l : List D} {t : Nat} (ht : t < 1000) (hl : l.length < 1000) (h : Tb b ω) (hb : b + 200 < 2 ^ 39) : ∃ f ω', P3 (sl s0 (.val (.bl g)) (.own l) (.val (.int (t : Nat))) s5 s6 s7 s8 s9 s10) ω = .ok (.nx (sl s0 (.val (.bl g)) (.own (l ++ [enc f])) (.val (.int (t : Nat))) s5 s6 s7 s8 s9 s10)) ω' ∧ WF f ∧ Tb (b + 200) ω' := by
  have hz : sizeLine = 16777216 := rfl
  cases g with
  | true =>
    obtain ⟨f, ω', q1, q2, q3, q4⟩ := great_run ht h (by omega)
    refine ⟨f, ω', ?_, ⟨q2, q3⟩, q4.le (by omega)⟩
    unfold P3 sApp
    simp only [sSeq, sIf, sSet, sRet, sNext, sExpr, sFor, sPar2, sRaise0, sBreak, sCont, sRetN, eOp2, eOp1, eOpN, eVar, eC, eIf, eAnd, eOr, eNot, DL.tB, tNot, tAnd, tOr, aCons, aNil, eCall, eSl, oNone, oSome, eChain, Rs.bind_ok, Rs.bind_err, rs1_some, List.getElem?_cons_zero, List.getElem?_cons_succ, List.set_cons_zero, List.set_cons_succ, Bool.not_true, Bool.not_false, Bool.false_eq_true, if_true, if_false, q1, show l.length < sizeLine by omega]
  | false =>
    obtain ⟨k, ω1, d1, d2, d3⟩ := eDrawI (δ := sl s0 (.val (.bl false)) (.own l) (.val (.int (t : Nat))) s5 s6 s7 s8 s9 s10) 1 4 rfl h (by omega) (by decide) (by decide)
    have hk : cst k ≤ cst 3 := cst_le (by omega)
    obtain ⟨f, ω', q1, q2, q3, q4⟩ := tr_filter_all 5 k (by omega) ω1 (b + 1) d3 (by have := c3; omega)
    refine ⟨f, ω', ?_, ⟨q2, by omega⟩, q4.le (by have := c3; omega)⟩
    have d1' : eCall drawF (aCons (eVar 1) (aCons (eC (.int 4)) aNil)) (sl s0 (.val (.bl false)) (.own l) (.val (.int (t : Nat))) s5 s6 s7 s8 s9 s10) ω = .ok (.int (k : Nat)) ω1 := d1
    have e : eCall (f_w_tr_filter 5) (aCons (eVar 1) (aCons (eCall drawF (aCons (eVar 1) (aCons (eC (.int 4)) aNil))) aNil)) (sl s0 (.val (.bl false)) (.own l) (.val (.int (t : Nat))) s5 s6 s7 s8 s9 s10) ω = .ok (enc f) ω' := (eCall_run (aCons_run rfl (aCons_run d1' rfl))).trans q1
    have e2 : (eIf (DL.tB (eVar 2)) (eCall f_w_k24_great (aCons (eVar 1) (aCons (eVar 4) aNil))) (eCall (f_w_tr_filter 5) (aCons (eVar 1) (aCons (eCall drawF (aCons (eVar 1) (aCons (eC (.int 4)) aNil))) aNil)))) (sl s0 (.val (.bl false)) (.own l) (.val (.int (t : Nat))) s5 s6 s7 s8 s9 s10) ω = .ok (enc f) ω' := e
    unfold P3 sApp
    simp only [List.getElem?_cons_zero, List.getElem?_cons_succ, e2, Rs.bind_ok, show l.length < sizeLine by omega, if_true, List.set_cons_zero, List.set_cons_succ]
theorem lP3_run {g : Bool} : ∀ (js : List Nat) (l : List Flt) (s4 : Sl) (ω : Om) (b : Int), (∀ j ∈ js, j < 100) → l.length + js.length < 1000 → (∀ f ∈ l, WF f) → Tb b ω → b + 200 * js.length < 2 ^ 39 →
    ∃ (l' : List Flt) (s4' : Sl) (ω' : Om), loopF (gdName 4) P3 (js.map fun (j : Nat) => D.int (j : Nat)) (sl s0 (.val (.bl g)) (.own (l.map enc)) s4 s5 s6 s7 s8 s9 s10) ω = .ok (.nx (sl s0 (.val (.bl g)) (.own (l'.map enc)) s4' s5 s6 s7 s8 s9 s10)) ω' ∧ l'.length = l.length + js.length ∧ (∀ f ∈ l', WF f) ∧ Tb (b + 200 * js.length) ω'
  | [], l, s4, ω, b, _, _, h, ht, _ => ⟨l, s4, ω, rfl, rfl, h, by simpa using ht⟩
  | j :: js, l, s4, ω, b, hj, hl, h, ht, hb => by
    rw [List.length_cons] at hl hb
    obtain ⟨f, ω1, q1, q2, q3⟩ := P3_run (s0 := s0) (s5 := s5) (s6 := s6) (s7 := s7) (s8 := s8) (s9 := s9) (s10 := s10) (g := g) (l := l.map enc) (t := j) (by have := hj j (by simp); omega) (by rw [List.length_map]; omega) ht (by omega)
    obtain ⟨l', s4', ω', z1, z2, z3, z4⟩ := lP3_run (g := g) js (l ++ [f]) (.val (.int (j : Nat))) ω1 (b + 200) (fun x hx => hj x (by simp [hx])) (by rw [List.length_append, List.length_singleton]; omega) (fun x hx => by
      rcases List.mem_append.mp hx with hx | hx
      · exact h x hx
      · rw [List.mem_singleton.mp hx]; exact q2) q3 (by omega)
    refine ⟨l', s4', ω', ?_, by rw [z2, List.length_append, List.length_singleton, List.length_cons]; omega, z3, z4.le (by rw [List.length_cons]; omega)⟩
    rw [List.map_append] at z1
    rw [List.map_cons, ← z1]
    exact loopF_step (δ1 := sl s0 (.val (.bl g)) (.own (l.map enc)) (.val (.int (j : Nat))) s5 s6 s7 s8 s9 s10) rfl q1
theorem P4_run {l : List Flt} (hl : 1 ≤ l.length) (hl2 : l.length < 1000) (hw : ∀ f ∈ l, WF f) (h : Tb b ω) (hb : b < 2 ^ 39)  : ∃ (l' : List Flt) (ω' : Om), P4 (sl s0 s2 (.own (l.map enc)) s4 s5 s6 s7 s8 s9 s10) ω = .ok (.nx (sl s0 s2 (.own (l'.map enc)) s4 s5 s6 s7 s8 s9 s10)) ω' ∧ (∀ f ∈ l', WF f) ∧ 1 ≤ l'.length ∧ l'.length ≤ l.length + 1 ∧ Tb (b + 1) ω' := by
  have hz : sizeLine = 16777216 := rfl
  obtain ⟨k, ω1, d1, d2, d3⟩ := eDrawI (δ := sl s0 s2 (.own (l.map enc)) s4 s5 s6 s7 s8 s9 s10) 1 3 rfl h (by omega) (by decide) (by decide)
  have d1' : eCall drawF (aCons (eVar 1) (aCons (eC (.int 3)) aNil)) (sl s0 s2 (.own (l.map enc)) s4 s5 s6 s7 s8 s9 s10) ω = .ok (.int (k : Nat)) ω1 := d1
  have k0 : gEqX (.int (k : Nat)) (.int 0) = some (.bl (decide (k = 0))) := gEqX_nat k 0
  have c0 : (DL.tB (eOp2 gEqX (eCall drawF (aCons (eVar 1) (aCons (eC (.int 3)) aNil))) (eC (.int 0)))) (sl s0 s2 (.own (l.map enc)) s4 s5 s6 s7 s8 s9 s10) ω = .ok (decide (k = 0)) ω1 := by
    simp only [DL.tB, eOp2, eC, d1', Rs.bind_ok, k0, rs1_some]
  by_cases hk : k = 0
  · rw [decide_eq_true hk] at c0
    cases l with
    | nil => simp at hl
    | cons f r =>
      refine ⟨f :: r ++ [f], ω1, (sIf_t c0).trans ?_, fun x hx => ?_, by simp, by simp, d3⟩
      · have ix := gIx_l0 (enc f) (r.map enc)
        have e : (f :: r).map enc = enc f :: r.map enc := rfl
        have p : (ePeek 3 (eOp2 gIx (eVar 3) (eC (.int 0)))) (sl s0 s2 (.own ((f :: r).map enc)) s4 s5 s6 s7 s8 s9 s10) ω1 = .ok (enc f) ω1 := by
          rw [e]
          unfold ePeek
          simp only [sSeq, sIf, sSet, sRet, sNext, sExpr, sFor, sPar2, sRaise0, sBreak, sCont, sRetN, eOp2, eOp1, eOpN, eVar, eC, eIf, eAnd, eOr, eNot, DL.tB, tNot, tAnd, tOr, aCons, aNil, eCall, eSl, oNone, oSome, eChain, Rs.bind_ok, Rs.bind_err, rs1_some, List.getElem?_cons_zero, List.getElem?_cons_succ, List.set_cons_zero, List.set_cons_succ, Bool.not_true, Bool.not_false, Bool.false_eq_true, if_true, if_false, ix, noErr, (pure_enc f).1]
        rw [List.length_cons] at hl2
        rw [e] at p
        unfold sApp
        simp only [List.getElem?_cons_zero, List.getElem?_cons_succ, p, Rs.bind_ok, List.length_map, List.length_cons, show r.length + 1 < sizeLine by omega, if_true, List.set_cons_zero, List.set_cons_succ, List.map_append, List.map_cons, List.map_nil]
      · rcases List.mem_append.mp hx with hx | hx
        · exact hw x hx
        · rw [List.mem_singleton.mp hx]; exact hw f (by simp)
  · rw [decide_eq_false hk] at c0
    exact ⟨l, ω1, (sIf_f c0).trans rfl, hw, hl, by omega, d3⟩
theorem gd_fs {fs : List Flt} (hw : ∀ f ∈ fs, WF f) (hl : fs.length ≤ 800) : goodD 5000 (.tup (fs.map enc)) = true ∧ Gd (.tup (fs.map enc)) := by
  have q : goodD 5000 (.tup (fs.map enc)) = true := good_tup.mpr ⟨by rw [List.length_map]; omega, fun d hd => by
    obtain ⟨f, hf, rfl⟩ := List.mem_map.mp hd
    exact (gd_enc (hw f hf).1).1⟩
  exact ⟨q, good_up (by decide) _ q⟩
theorem isx_bad : isx "BadFilter" = true := by decide +kernel
theorem isc_bad : gIsc kb [.exc "BadFilter" [], .glo "BadFilter"] = some (.bl true) := by
  exact kbf (.own "BadFilter") (.own "BadFilter") true (by decide +kernel) _ _ rfl rfl
theorem caught_err {fe : EvE} {δ : Sls} {ω1 : Om} (h : fe δ ω = .err ("BadFilter", []) ω1) : eOpN (gIsc kb) (aCons (eCaught isx fe) (aCons (eC (.glo "BadFilter")) aNil)) δ ω = .ok (.bl true) ω1 := by
  have e : eCaught isx fe δ ω = .ok (.exc "BadFilter" []) ω1 := by
    unfold eCaught
    rw [h]
    show (if isx "BadFilter" = true ∧ ([] : List (Str × D)).length ≤ 1 then Rs.ok (D.exc "BadFilter" []) ω1 else .bad) = _
    rw [if_pos ⟨isx_bad, by decide⟩]
  simp only [eOpN, aCons, aNil, eC, Rs.bind_ok, e, isc_bad, rs1_some]
theorem P6_bad {fs : List Flt} {f : Flt} (hw : ∀ f ∈ fs, WF f) (hl : fs.length ≤ 800) (hf : f ∈ fs) (hn : isF (enc f) = false) : P6 (sl s0 s2 (.val (.tup (fs.map enc))) s4 (.val (enc f)) s6 s7 s8 s9 s10) ω = .ok (.rt (.bl true)) ω := by
  have hg := gd_enc (hw f hf).1
  have o := over_run (δ := sl s0 s2 (.val (.tup (fs.map enc))) s4 (.val (enc f)) s6 s7 s8 s9 s10) (i := 5) (ω := ω) hg.2 rfl
  rw [hn] at o
  have d1 : f_demands_of [.tup (fs.map enc)] ω = .err ("BadFilter", []) ω := by
    rcases demands_of_run (gd_fs hw hl).2 ω with ⟨gs, e, e1, _⟩ | ⟨_, e⟩
    · have hm : enc f ∈ gs.map enc := by rw [← D.tup.inj e]; exact List.mem_map.mpr ⟨f, hf, rfl⟩
      obtain ⟨g, hg1, hg2⟩ := List.mem_map.mp hm
      rw [← hg2, isF_enc (e1 g hg1)] at hn
      cases hn
    · exact e
  have d2 : f_needs_of [enc f] ω = .err ("BadFilter", []) ω := by
    rcases needs_of_run hg.2 ω with ⟨g, e, e1, _⟩ | ⟨_, e⟩
    · rw [e, isF_enc e1] at hn
      cases hn
    · exact e
  have q1 : Q1 (sl s0 s2 (.val (.tup (fs.map enc))) s4 (.val (enc f)) s6 s7 s8 s9 s10) ω = .ok true ω := by
    unfold Q1 DL.tB
    rw [caught_err (fe := eCall f_demands_of (aCons (eVar 3) aNil)) (ω1 := ω) (by simp only [sSeq, sIf, sSet, sRet, sNext, sExpr, sFor, sPar2, sRaise0, sBreak, sCont, sRetN, eOp2, eOp1, eOpN, eVar, eC, eIf, eAnd, eOr, eNot, DL.tB, tNot, tAnd, tOr, aCons, aNil, eCall, eSl, oNone, oSome, eChain, Rs.bind_ok, Rs.bind_err, rs1_some, List.getElem?_cons_zero, List.getElem?_cons_succ, List.set_cons_zero, List.set_cons_succ, Bool.not_true, Bool.not_false, Bool.false_eq_true, if_true, if_false, d1]), Rs.bind_ok]
  have q2 : Q2 (sl s0 s2 (.val (.tup (fs.map enc))) s4 (.val (enc f)) s6 s7 s8 s9 s10) ω = .ok (.bl true) ω := caught_err (by simp only [sSeq, sIf, sSet, sRet, sNext, sExpr, sFor, sPar2, sRaise0, sBreak, sCont, sRetN, eOp2, eOp1, eOpN, eVar, eC, eIf, eAnd, eOr, eNot, DL.tB, tNot, tAnd, tOr, aCons, aNil, eCall, eSl, oNone, oSome, eChain, Rs.bind_ok, Rs.bind_err, rs1_some, List.getElem?_cons_zero, List.getElem?_cons_succ, List.set_cons_zero, List.set_cons_succ, Bool.not_true, Bool.not_false, Bool.false_eq_true, if_true, if_false, d2])
  have q1' : (tNot Q1) (sl s0 s2 (.val (.tup (fs.map enc))) s4 (.val (enc f)) s6 s7 s8 s9 s10) ω = .ok false ω := by
    unfold tNot
    rw [q1]
    rfl
  exact sSeq_rt ((sIf_t o).trans ((sSeq_run ((sIf_f q1').trans rfl)).trans (sRet_run q2)))
theorem wf_FF {f : Flt} (h : WF f) (hn : isF (enc f) = true) : FF f := by
  obtain ⟨g, e, e1⟩ := isF_inv hn
  have p := (py_of f).1
  rw [e, (py_of g).1] at p
  rw [(py_inj f h.1).1 g e1.1.1 (Option.some.inj p).symm]
  exact e1
theorem same_tB {δ : Sls} {fa fb : EvE} {d : D} (h1 : fa δ ω = .ok d ω) (h2 : fb δ ω = .ok d ω) (hd : txD 64 d = true) : (DL.tB (eCall (f_w_fp_same 64) (aCons fa (aCons fb aNil)))) δ ω = .ok true ω := by
  unfold DL.tB
  rw [eCall_run (aCons_run h1 (aCons_run h2 (show aNil δ ω = .ok [] ω from rfl))), same_run 64 d ω hd, Rs.bind_ok]
theorem P6_ok {fs : List Flt} {f : Flt} (hf : FF f) : P6 (sl s0 s2 (.val (.tup (fs.map enc))) s4 (.val (enc f)) s6 s7 s8 s9 s10) ω = .ok (.nx (sl s0 s2 (.val (.tup (fs.map enc))) s4 (.val (enc f)) s6 s7 s8 s9 s10)) ω := by
  have hg := gd_enc hf.1.1
  have o := over_run (δ := sl s0 s2 (.val (.tup (fs.map enc))) s4 (.val (enc f)) s6 s7 s8 s9 s10) (i := 5) (ω := ω) hg.2 rfl
  rw [isF_enc hf] at o
  have d2 : f_needs_of [enc f] ω = .ok (.tup ((nd f).map enc)) ω := by
    rcases needs_of_run hg.2 ω with ⟨g, e, e1, e2⟩ | ⟨e, _⟩
    · rw [enc_inj hf.1 e1.1 e]
      rw [enc_inj hf.1 e1.1 e] at e2
      exact e2
    · rw [isF_enc hf] at e
      cases e
  have d3 := (needs_run f hf.1.1 ω).2
  have q3 : Q3 (sl s0 s2 (.val (.tup (fs.map enc))) s4 (.val (enc f)) s6 s7 s8 s9 s10) ω = .ok true ω := same_tB (d := .tup ((nd f).map enc)) (by simp only [sSeq, sIf, sSet, sRet, sNext, sExpr, sFor, sPar2, sRaise0, sBreak, sCont, sRetN, eOp2, eOp1, eOpN, eVar, eC, eIf, eAnd, eOr, eNot, DL.tB, tNot, tAnd, tOr, aCons, aNil, eCall, eSl, oNone, oSome, eChain, Rs.bind_ok, Rs.bind_err, rs1_some, List.getElem?_cons_zero, List.getElem?_cons_succ, List.set_cons_zero, List.set_cons_succ, Bool.not_true, Bool.not_false, Bool.false_eq_true, if_true, if_false, d2]) (by simp only [sSeq, sIf, sSet, sRet, sNext, sExpr, sFor, sPar2, sRaise0, sBreak, sCont, sRetN, eOp2, eOp1, eOpN, eVar, eC, eIf, eAnd, eOr, eNot, DL.tB, tNot, tAnd, tOr, aCons, aNil, eCall, eSl, oNone, oSome, eChain, Rs.bind_ok, Rs.bind_err, rs1_some, List.getElem?_cons_zero, List.getElem?_cons_succ, List.set_cons_zero, List.set_cons_succ, Bool.not_true, Bool.not_false, Bool.false_eq_true, if_true, if_false, d3, gTuple_l]) (tx_L (FP_nd hf.1))
  have q3' : (tNot Q3) (sl s0 s2 (.val (.tup (fs.map enc))) s4 (.val (enc f)) s6 s7 s8 s9 s10) ω = .ok false ω := by
    unfold tNot
    rw [q3]
    rfl
  exact (sSeq_run ((sIf_f o).trans rfl)).trans ((sIf_f q3').trans rfl)
theorem lP6_run {fs : List Flt} (hw : ∀ f ∈ fs, WF f) (hl : fs.length ≤ 800) : ∀ (l : List Flt) (s5 : Sl), (∀ f ∈ l, f ∈ fs) →
    loopF (gdName 5) P6 (l.map enc) (sl s0 s2 (.val (.tup (fs.map enc))) s4 s5 s6 s7 s8 s9 s10) ω = .ok (.rt (.bl true)) ω ∨
    (∃ s5', loopF (gdName 5) P6 (l.map enc) (sl s0 s2 (.val (.tup (fs.map enc))) s4 s5 s6 s7 s8 s9 s10) ω = .ok (.nx (sl s0 s2 (.val (.tup (fs.map enc))) s4 s5' s6 s7 s8 s9 s10)) ω ∧ ∀ f ∈ l, FF f)
  | [], s5, _ => .inr ⟨s5, rfl, fun f h => nomatch h⟩
  | f :: r, s5, h => by
    cases hn : isF (enc f) with
    | false => exact .inl (loopF_rt (δ1 := sl s0 s2 (.val (.tup (fs.map enc))) s4 (.val (enc f)) s6 s7 s8 s9 s10) rfl (P6_bad hw hl (h f (by simp)) hn))
    | true =>
      have hf := wf_FF (hw f (h f (by simp))) hn
      have st := loopF_step (g := gdName 5) (body := P6) (d := enc f) (ds := r.map enc) (δ := sl s0 s2 (.val (.tup (fs.map enc))) s4 s5 s6 s7 s8 s9 s10) (δ1 := sl s0 s2 (.val (.tup (fs.map enc))) s4 (.val (enc f)) s6 s7 s8 s9 s10) rfl (P6_ok (ω := ω) (s0 := s0) (s2 := s2) (s4 := s4) (s6 := s6) (s7 := s7) (s8 := s8) (s9 := s9) (s10 := s10) (fs := fs) hf)
      rw [List.map_cons, st]
      rcases lP6_run hw hl r (.val (enc f)) fun x hx => h x (by simp [hx]) with z | ⟨s5', z, z2⟩
      · exact .inl z
      · exact .inr ⟨s5', z, fun x hx => by
          rcases List.mem_cons.mp hx with rfl | hx
          · exact hf
          · exact z2 x hx⟩
/-! truths -/
theorem is_truth_run (b1 b2 : Bool) (ω : Om) : f_w_is_truth [.bl b1, .bl b2] ω = .ok (.bl (b1 == b2)) ω := by
  refine runB_eq (ds := [.bl b1, .bl b2]) ?_
  show g_w_is_truth [.val (.bl b1), .val (.bl b2)] ω = _
  cases b1 <;> cases b2 <;> rfl
theorem truth_tB {δ : Sls} {fa fb : EvE} {b1 : Bool} {ω1 ω2 : Om} (h1 : fa δ ω = .ok (.bl b1) ω1) (h2 : fb δ ω1 = .ok (.bl b1) ω2) : (tNot (DL.tB (eCall f_w_is_truth (aCons fa (aCons fb aNil))))) δ ω = .ok false ω2 := by
  unfold tNot DL.tB
  rw [eCall_run (aCons_run h1 (aCons_run h2 (show aNil δ ω2 = .ok [] ω2 from rfl))), is_truth_run]
  cases b1 <;> rfl
theorem dmd_true {d : D} (hd : Gd d) (h : isDmd d) (ω : Om) : f_is_demands [d] ω = .ok (.bl true) ω := by
  obtain ⟨b, q1, q2, q3⟩ := dmd_run hd ω
  rw [q3.mpr h] at q1
  exact q1
theorem dmd_false {d : D} (hd : Gd d) (h : ¬ isDmd d) (ω : Om) : f_is_demands [d] ω = .ok (.bl false) ω := by
  obtain ⟨b, q1, q2, q3⟩ := dmd_run hd ω
  cases b with
  | true => exact absurd (q3.mp rfl) h
  | false => exact q1
end
theorem gathA_p {fs : List Flt} (hfs : ∀ f ∈ fs, FF f) (h1 : 1 ≤ fs.length) (h2 : fs.length ≤ 12) : (∀ f ∈ gathA fs, FF f) ∧ isDem nd [] (gathA fs) = true ∧ 1 ≤ (gathA fs).length ∧ (gathA fs).length ≤ 720 := by
  obtain ⟨i1, i2, i3, i4, i5⟩ := foldl_gath fs [] hfs (fun x h => nomatch h)
  refine ⟨i1, i3 rfl, ?_, by have : ([] : List Flt).length = 0 := rfl; show (fs.foldl _ []).length ≤ 720; omega⟩
  cases fs with
  | nil => simp at h1
  | cons f r => exact List.length_pos_of_mem (i5 f (by simp))
section
variable {s0 s2 s3 s4 s5 s6 s7 s8 s9 s10 : Sl} {ω : Om} {b : Int} {fs Dm : List Flt}
theorem FF_WF {f : Flt} (h : FF f) : WF f := ⟨h.1.1, by have := h.1.2; omega⟩
theorem P8_run (hfs : ∀ f ∈ fs, FF f) (h1 : 1 ≤ fs.length) (h2 : fs.length ≤ 12) : P8 (sl s0 s2 (.val (.tup (fs.map enc))) s4 s5 (.val (.tup ((gathA fs).map enc))) s7 s8 s9 s10) ω = .ok (.nx (sl s0 s2 (.val (.tup (fs.map enc))) s4 s5 (.val (.tup ((gathA fs).map enc))) s7 s8 s9 s10)) ω := by
  obtain ⟨g1, g2, g3, g4⟩ := gathA_p hfs h1 h2
  have d1 : f_demands_of [.tup (fs.map enc)] ω = .ok (.tup ((gathA fs).map enc)) ω := by
    rcases demands_of_run (gd_fs (fun f hf => FF_WF (hfs f hf)) (by omega)).2 ω with ⟨gs, e, e1, _, _, e2⟩ | ⟨e, _⟩
    · rw [← encL_inj hfs e1 (D.tup.inj e)] at e2
      exact e2
    · have : areF (.tup (fs.map enc)) = true := by
        show (decide (1 ≤ (fs.map enc).length) && decide ((fs.map enc).length ≤ 12) && (fs.map enc).all isF) = true
        rw [List.length_map, decide_eq_true h1, decide_eq_true h2, all_enc hfs]
        rfl
      rw [this] at e
      cases e
  have t1 : (tNot (DL.tB (eCall (f_w_fp_same 64) (aCons (eCall f_demands_of (aCons (eVar 3) aNil)) (aCons (eVar 6) aNil))))) (sl s0 s2 (.val (.tup (fs.map enc))) s4 s5 (.val (.tup ((gathA fs).map enc))) s7 s8 s9 s10) ω = .ok false ω := by
    unfold tNot
    rw [same_tB (d := .tup ((gathA fs).map enc)) (by simp only [sSeq, sIf, sSet, sRet, sNext, sExpr, sFor, sPar2, sRaise0, sBreak, sCont, sRetN, eOp2, eOp1, eOpN, eVar, eC, eIf, eAnd, eOr, eNot, DL.tB, tNot, tAnd, tOr, aCons, aNil, eCall, eSl, oNone, oSome, eChain, Rs.bind_ok, Rs.bind_err, rs1_some, List.getElem?_cons_zero, List.getElem?_cons_succ, List.set_cons_zero, List.set_cons_succ, Bool.not_true, Bool.not_false, Bool.false_eq_true, if_true, if_false, d1]) (by simp only [sSeq, sIf, sSet, sRet, sNext, sExpr, sFor, sPar2, sRaise0, sBreak, sCont, sRetN, eOp2, eOp1, eOpN, eVar, eC, eIf, eAnd, eOr, eNot, DL.tB, tNot, tAnd, tOr, aCons, aNil, eCall, eSl, oNone, oSome, eChain, Rs.bind_ok, Rs.bind_err, rs1_some, List.getElem?_cons_zero, List.getElem?_cons_succ, List.set_cons_zero, List.set_cons_succ, Bool.not_true, Bool.not_false, Bool.false_eq_true, if_true, if_false]) (tx_L fun f hf => (g1 f hf).1)]
    rfl
  have t2 : (tNot (DL.tB (eCall f_w_is_truth (aCons (eCall f_is_demands (aCons (eVar 6) aNil)) (aCons (eC (.bl true)) aNil))))) (sl s0 s2 (.val (.tup (fs.map enc))) s4 s5 (.val (.tup ((gathA fs).map enc))) s7 s8 s9 s10) ω = .ok false ω := by
    have e := dmd_true (gd_fs (fun f hf => FF_WF (g1 f hf)) (by omega)).2 ⟨gathA fs, rfl, g1, g3, by omega, g2⟩ ω
    exact truth_tB (ω1 := ω) (ω2 := ω) (by simp only [sSeq, sIf, sSet, sRet, sNext, sExpr, sFor, sPar2, sRaise0, sBreak, sCont, sRetN, eOp2, eOp1, eOpN, eVar, eC, eIf, eAnd, eOr, eNot, DL.tB, tNot, tAnd, tOr, aCons, aNil, eCall, eSl, oNone, oSome, eChain, Rs.bind_ok, Rs.bind_err, rs1_some, List.getElem?_cons_zero, List.getElem?_cons_succ, List.set_cons_zero, List.set_cons_succ, Bool.not_true, Bool.not_false, Bool.false_eq_true, if_true, if_false, e]) rfl
  refine (sIf_f (ω1 := ω) ?_).trans rfl
  unfold tOr
  rw [t1, Rs.bind_ok, if_neg (by decide), t2]
theorem B9_run (hD : ∀ f ∈ Dm, FF f) (hl : Dm.length ≤ 800) (h : Tb b ω) (hb : b + 192 < 2 ^ 39) : ∃ s7' ω', B9 (sl s0 s2 s3 s4 s5 (.val (.tup (Dm.map enc))) s7 s8 s9 s10) ω = .ok (.nx (sl s0 s2 s3 s4 s5 (.val (.tup (Dm.map enc))) s7' s8 s9 s10)) ω' ∧ Tb (b + 192) ω' := by
  obtain ⟨d, ω', q1, q2, q3⟩ := bent_run 47 (.tup (Dm.map enc)) ω b (low_tx 47 _ (by
    show (Dm.map enc).all (txD 46) = true
    rw [List.all_map]
    refine List.all_eq_true.mpr fun f hf => ?_
    have := (hD f hf).1.2
    exact tx_up _ _ _ (by omega) (tx_enc f).1)) (gd_fs (fun f hf => FF_WF (hD f hf)) hl).1 h (by omega)
  obtain ⟨c, c1, c2, c3⟩ := dmd_run q2 ω'
  refine ⟨.val d, ω', (sSeq_run (sSet_run (i := 7) (d := d) (ω1 := ω') ?_)).trans ((sIf_f (truth_tB (b1 := c) (ω1 := ω') (ω2 := ω') ?_ ?_)).trans rfl), q3.le (by omega)⟩
  · simp only [sSeq, sIf, sSet, sRet, sNext, sExpr, sFor, sPar2, sRaise0, sBreak, sCont, sRetN, eOp2, eOp1, eOpN, eVar, eC, eIf, eAnd, eOr, eNot, DL.tB, tNot, tAnd, tOr, aCons, aNil, eCall, eSl, oNone, oSome, eChain, Rs.bind_ok, Rs.bind_err, rs1_some, List.getElem?_cons_zero, List.getElem?_cons_succ, List.set_cons_zero, List.set_cons_succ, Bool.not_true, Bool.not_false, Bool.false_eq_true, if_true, if_false]
    exact q1
  · simp only [sSeq, sIf, sSet, sRet, sNext, sExpr, sFor, sPar2, sRaise0, sBreak, sCont, sRetN, eOp2, eOp1, eOpN, eVar, eC, eIf, eAnd, eOr, eNot, DL.tB, tNot, tAnd, tOr, aCons, aNil, eCall, eSl, oNone, oSome, eChain, Rs.bind_ok, Rs.bind_err, rs1_some, List.getElem?_cons_zero, List.getElem?_cons_succ, List.set_cons_zero, List.set_cons_succ, Bool.not_true, Bool.not_false, Bool.false_eq_true, if_true, if_false, c1]
  · simp only [sSeq, sIf, sSet, sRet, sNext, sExpr, sFor, sPar2, sRaise0, sBreak, sCont, sRetN, eOp2, eOp1, eOpN, eVar, eC, eIf, eAnd, eOr, eNot, DL.tB, tNot, tAnd, tOr, aCons, aNil, eCall, eSl, oNone, oSome, eChain, Rs.bind_ok, Rs.bind_err, rs1_some, List.getElem?_cons_zero, List.getElem?_cons_succ, List.set_cons_zero, List.set_cons_succ, Bool.not_true, Bool.not_false, Bool.false_eq_true, if_true, if_false, c2]
theorem lB9_run (hD : ∀ f ∈ Dm, FF f) (hl : Dm.length ≤ 800) : ∀ (ds : List D) (s4 s7 : Sl) (ω : Om) (b : Int), Tb b ω → b + 192 * ds.length < 2 ^ 39 → ∃ s4' s7' ω', loopF (gdName 4) B9 ds (sl s0 s2 s3 s4 s5 (.val (.tup (Dm.map enc))) s7 s8 s9 s10) ω = .ok (.nx (sl s0 s2 s3 s4' s5 (.val (.tup (Dm.map enc))) s7' s8 s9 s10)) ω' ∧ Tb (b + 192 * ds.length) ω'
  | [], s4, s7, ω, b, ht, _ => ⟨s4, s7, ω, rfl, by simpa using ht⟩
  | d :: ds, s4, s7, ω, b, ht, hb => by
    rw [List.length_cons] at hb
    obtain ⟨s7', ω1, q1, q2⟩ := B9_run (s0 := s0) (s2 := s2) (s3 := s3) (s4 := .val d) (s5 := s5) (s7 := s7) (s8 := s8) (s9 := s9) (s10 := s10) hD hl ht (by omega)
    obtain ⟨s4', s7'', ω', z1, z2⟩ := lB9_run hD hl ds (.val d) s7' ω1 (b + 192) q2 (by omega)
    refine ⟨s4', s7'', ω', ?_, z2.le (by rw [List.length_cons]; omega)⟩
    rw [← z1]
    exact loopF_step (δ1 := sl s0 s2 s3 (.val d) s5 (.val (.tup (Dm.map enc))) s7 s8 s9 s10) rfl q1
theorem P9_run (hD : ∀ f ∈ Dm, FF f) (hd : isDem nd [] Dm = true) (h1 : 1 ≤ Dm.length) (hl : Dm.length ≤ 720) (h : Tb b ω) (hb : b + 2000 < 2 ^ 29) : ∃ s4' s7' ω', P9 (sl s0 s2 s3 s4 s5 (.val (.tup (Dm.map enc))) s7 s8 s9 s10) ω = .ok (.nx (sl s0 s2 s3 s4' s5 (.val (.tup (Dm.map enc))) s7' s8 s9 s10)) ω' ∧ Tb (b + 2000) ω' := by
  have k : gLeA (.int (Dm.length : Nat)) (.int 60) = some (.bl (decide (Dm.length ≤ 60))) := gLeA_nat _ 60
  have c0 : (DL.tB (eOp2 gLeA (eOpN gLen (aCons (eVar 6) aNil)) (eC (.int 60)))) (sl s0 s2 s3 s4 s5 (.val (.tup (Dm.map enc))) s7 s8 s9 s10) ω = .ok (decide (Dm.length ≤ 60)) ω := by
    simp only [sSeq, sIf, sSet, sRet, sNext, sExpr, sFor, sPar2, sRaise0, sBreak, sCont, sRetN, eOp2, eOp1, eOpN, eVar, eC, eIf, eAnd, eOr, eNot, DL.tB, tNot, tAnd, tOr, aCons, aNil, eCall, eSl, oNone, oSome, eChain, Rs.bind_ok, Rs.bind_err, rs1_some, List.getElem?_cons_zero, List.getElem?_cons_succ, List.set_cons_zero, List.set_cons_succ, Bool.not_true, Bool.not_false, Bool.false_eq_true, if_true, if_false, gLen_t, List.length_map, k]
  by_cases hk : Dm.length ≤ 60
  · rw [decide_eq_true hk] at c0
    obtain ⟨gs, ω1, q1, q2, q3, q4, q5⟩ := exchanged_run hD hd h1 (by omega) h (by omega)
    have e := dmd_true (gd_fs (fun f hf => FF_WF (q3 f hf)) (by omega)).2 q2 ω1
    have a1 : P9a (sl s0 s2 s3 s4 s5 (.val (.tup (Dm.map enc))) s7 s8 s9 s10) ω = .ok (.nx (sl s0 s2 s3 s4 s5 (.val (.tup (Dm.map enc))) s7 s8 s9 s10)) ω1 :=
      (sIf_f (truth_tB (b1 := true) (ω1 := ω1) (ω2 := ω1) (by simp only [sSeq, sIf, sSet, sRet, sNext, sExpr, sFor, sPar2, sRaise0, sBreak, sCont, sRetN, eOp2, eOp1, eOpN, eVar, eC, eIf, eAnd, eOr, eNot, DL.tB, tNot, tAnd, tOr, aCons, aNil, eCall, eSl, oNone, oSome, eChain, Rs.bind_ok, Rs.bind_err, rs1_some, List.getElem?_cons_zero, List.getElem?_cons_succ, List.set_cons_zero, List.set_cons_succ, Bool.not_true, Bool.not_false, Bool.false_eq_true, if_true, if_false, q1, e]) rfl)).trans rfl
    obtain ⟨s4', s7', ω', z1, z2⟩ := lB9_run (s0 := s0) (s2 := s2) (s3 := s3) (s5 := s5) (s8 := s8) (s9 := s9) (s10 := s10) hD (by omega) ((List.range 3).map fun (j : Nat) => D.int (j : Nat)) s4 s7 ω1 (b + 800) q5 (by rw [List.length_map, List.length_range]; omega)
    rw [List.length_map, List.length_range] at z2
    exact ⟨s4', s7', ω', (sIf_t c0).trans ((sSeq_run a1).trans ((sFor_run (range_run (k := 3) rfl (by decide))).trans z1)), z2.le (by omega)⟩
  · rw [decide_eq_false hk] at c0
    exact ⟨s4, s7, ω, (sIf_f c0).trans rfl, h.le (by omega)⟩
def labF (j : Nat) : Flt := .lab (nS j)
theorem labF_inj {i j : Nat} (h : labF i = labF j) : i = j := by
  unfold labF nS at h
  injection h with h
  have := S_inj h
  injection this with _ h2
  exact TL.numL_inj h2
theorem labF_FF {j : Nat} (h : j < 1000) : FF (labF j) := ⟨⟨nS_nm h, by show 1 ≤ 12; decide⟩, by show 1 ≤ 60; decide⟩
theorem labs_dem : ∀ (l : List Nat) (ahead : List Flt), l.Nodup → (∀ j ∈ l, labF j ∉ ahead) → isDem nd ahead (l.map labF) = true
  | [], _, _, _ => rfl
  | j :: r, ahead, hn, h => by
    obtain ⟨n1, n2⟩ := List.nodup_cons.mp hn
    have ih := labs_dem r (ahead ++ [labF j]) n2 fun i hi => by
      intro hm
      rcases List.mem_append.mp hm with hm | hm
      · exact h i (by simp [hi]) hm
      · exact n1 (labF_inj (List.mem_singleton.mp hm) ▸ hi)
    have e : decide (labF j ∈ ahead) = false := decide_eq_false (h j (by simp))
    show (!decide (labF j ∈ ahead) && ((nd (labF j)).all (fun x => decide (x ∈ ahead)) && isDem nd (ahead ++ [labF j]) (r.map labF))) = true
    rw [e, ih]
    rfl
theorem P10_run (h : Tb b ω) (hb : b + 2 < 2 ^ 39) : ∃ s8' ω', P10 (sl s0 s2 s3 s4 s5 s6 s7 s8 .emp s10) ω = .ok (.nx (sl s0 s2 s3 s4 s5 s6 s7 s8' .emp s10)) ω' ∧ Tb (b + 2) ω' := by
  obtain ⟨k, ω1, d1, d2, d3⟩ := eDrawI (δ := sl s0 s2 s3 s4 s5 s6 s7 s8 .emp s10) 1 6 rfl h (by omega) (by decide) (by decide)
  have d1' : eCall drawF (aCons (eVar 1) (aCons (eC (.int 6)) aNil)) (sl s0 s2 s3 s4 s5 s6 s7 s8 .emp s10) ω = .ok (.int (k : Nat)) ω1 := d1
  have k0 : gEqX (.int (k : Nat)) (.int 0) = some (.bl (decide (k = 0))) := gEqX_nat k 0
  have c0 : (DL.tB (eOp2 gEqX (eCall drawF (aCons (eVar 1) (aCons (eC (.int 6)) aNil))) (eC (.int 0)))) (sl s0 s2 s3 s4 s5 s6 s7 s8 .emp s10) ω = .ok (decide (k = 0)) ω1 := by
    simp only [DL.tB, eOp2, eC, d1', Rs.bind_ok, k0, rs1_some]
  by_cases hk : k = 0
  · rw [decide_eq_true hk] at c0
    obtain ⟨m, ω2, e1, e2, e3⟩ := eDrawI (δ := sl s0 s2 s3 s4 s5 s6 s7 s8 .emp s10) 1 2 rfl d3 (by omega) (by decide) (by decide)
    have e1' : eCall drawF (aCons (eVar 1) (aCons (eC (.int 2)) aNil)) (sl s0 s2 s3 s4 s5 s6 s7 s8 .emp s10) ω1 = .ok (.int (m : Nat)) ω2 := e1
    have a1 : gAdd (.int 800) (.int (m : Nat)) = some (.int ((800 + m : Nat) : Int)) := gAdd_nat 800 m
    have ei : iRange (aCons (eOp2 gAdd (eC (.int 800)) (eCall drawF (aCons (eVar 1) (aCons (eC (.int 2)) aNil)))) aNil) (sl s0 s2 s3 s4 s5 s6 s7 s8 .emp s10) ω1 = .ok ((List.range (800 + m)).map fun (j : Nat) => D.int (j : Nat)) ω2 := by
      refine range_run (k := 800 + m) (aCons_run ?_ rfl) (by omega)
      simp only [eOp2, eC, Rs.bind_ok, e1', a1, rs1_some]
    have c1 : compF (gdName 9) tTrue L10 (sl s0 s2 s3 s4 s5 s6 s7 s8 .emp s10) ((List.range (800 + m)).map fun (j : Nat) => D.int (j : Nat)) ω2 = .ok ((List.range (800 + m)).map fun j => enc (labF j)) ω2 := by
      refine compF_map (fun (j : Nat) => D.int (j : Nat)) (fun j => enc (labF j)) (List.range (800 + m)) fun j hj => ⟨sl s0 s2 s3 s4 s5 s6 s7 s8 (.val (.int (j : Nat))) s10, rfl, ?_⟩
      have hj' := List.mem_range.mp hj
      have lj := TL.numL_len (n := j) (k := 3) (by decide) (by omega)
      have g1 := gStr_nat (n := j) (by omega)
      have en : ("n" : Str) = S [110] := by decide +kernel
      have hz : sizeLine = 16777216 := rfl
      have a1 : gAdd (.str (S [110])) (.str (S (TL.numL j))) = some (.str (S ([110] ++ TL.numL j))) := gAdd_S (by simp only [List.length_singleton]; omega)
      unfold L10
      rw [en]
      simp only [sSeq, sIf, sSet, sRet, sNext, sExpr, sFor, sPar2, sRaise0, sBreak, sCont, sRetN, eOp2, eOp1, eOpN, eVar, eC, eIf, eAnd, eOr, eNot, DL.tB, tNot, tAnd, tOr, aCons, aNil, eCall, eSl, oNone, oSome, eChain, Rs.bind_ok, Rs.bind_err, rs1_some, List.getElem?_cons_zero, List.getElem?_cons_succ, List.set_cons_zero, List.set_cons_succ, Bool.not_true, Bool.not_false, Bool.false_eq_true, if_true, if_false, g1, a1, two_tup]
      rfl
    have c2 := eComp_run (vs := [9]) (δ := sl s0 s2 s3 s4 s5 s6 s7 s8 .emp s10) ei c1
    have em : ((List.range (800 + m)).map fun j => enc (labF j)) = ((List.range (800 + m)).map labF).map enc := by rw [List.map_map]; rfl
    rw [em] at c2
    have s8r : sSet 8 (eOpN gTuple (aCons (eComp (iRange (aCons (eOp2 gAdd (eC (.int 800)) (eCall drawF (aCons (eVar 1) (aCons (eC (.int 2)) aNil)))) aNil)) (gdName 9) tTrue L10 [9]) aNil)) (sl s0 s2 s3 s4 s5 s6 s7 s8 .emp s10) ω1 = .ok (.nx (sl s0 s2 s3 s4 s5 s6 s7 (.val (.tup (((List.range (800 + m)).map labF).map enc))) .emp s10)) ω2 := by
      refine sSet_run (i := 8) (d := .tup (((List.range (800 + m)).map labF).map enc)) ?_
      simp only [eOpN, aCons, aNil, c2, Rs.bind_ok, gTuple_l, rs1_some]
    have hall : ∀ f ∈ (List.range (800 + m)).map labF, FF f := fun f hf => by
      obtain ⟨j, hj, rfl⟩ := List.mem_map.mp hf
      exact labF_FF (by have := List.mem_range.mp hj; omega)
    have hlen : ((List.range (800 + m)).map labF).length = 800 + m := by rw [List.length_map, List.length_range]
    have hgd : Gd (.tup (((List.range (800 + m)).map labF).map enc)) := good_tup.mpr ⟨by rw [List.length_map, hlen]; show 800 + m ≤ 10000; omega, fun d hd => by
      obtain ⟨f, hf, rfl⟩ := List.mem_map.mp hd
      exact (gd_enc (hall f hf).1.1).2⟩
    have hdm := labs_dem (List.range (800 + m)) [] List.nodup_range fun j _ hm => nomatch hm
    have q : f_is_demands [.tup (((List.range (800 + m)).map labF).map enc)] ω2 = .ok (.bl (decide (800 + m = 800))) ω2 := by
      by_cases hm : m = 0
      · rw [dmd_true hgd ⟨_, rfl, hall, by rw [hlen]; omega, by rw [hlen]; omega, hdm⟩ ω2, decide_eq_true (by omega)]
      · rw [dmd_false hgd (fun ⟨gs, e, e1, e2, e3, _⟩ => ?_) ω2, decide_eq_false (by omega)]
        have := congrArg List.length (D.tup.inj e)
        rw [List.length_map, hlen, List.length_map] at this
        omega
    have k1 : gEqX (.int ((800 + m : Nat) : Int)) (.int 800) = some (.bl (decide (800 + m = 800))) := gEqX_nat _ 800
    have fin : P10b (sl s0 s2 s3 s4 s5 s6 s7 (.val (.tup (((List.range (800 + m)).map labF).map enc))) .emp s10) ω2 = .ok (.nx (sl s0 s2 s3 s4 s5 s6 s7 (.val (.tup (((List.range (800 + m)).map labF).map enc))) .emp s10)) ω2 := by
      refine (sIf_f (truth_tB (b1 := decide (800 + m = 800)) (ω1 := ω2) (ω2 := ω2) ?_ ?_)).trans rfl
      · simp only [sSeq, sIf, sSet, sRet, sNext, sExpr, sFor, sPar2, sRaise0, sBreak, sCont, sRetN, eOp2, eOp1, eOpN, eVar, eC, eIf, eAnd, eOr, eNot, DL.tB, tNot, tAnd, tOr, aCons, aNil, eCall, eSl, oNone, oSome, eChain, Rs.bind_ok, Rs.bind_err, rs1_some, List.getElem?_cons_zero, List.getElem?_cons_succ, List.set_cons_zero, List.set_cons_succ, Bool.not_true, Bool.not_false, Bool.false_eq_true, if_true, if_false, q]
      · simp only [sSeq, sIf, sSet, sRet, sNext, sExpr, sFor, sPar2, sRaise0, sBreak, sCont, sRetN, eOp2, eOp1, eOpN, eVar, eC, eIf, eAnd, eOr, eNot, DL.tB, tNot, tAnd, tOr, aCons, aNil, eCall, eSl, oNone, oSome, eChain, Rs.bind_ok, Rs.bind_err, rs1_some, List.getElem?_cons_zero, List.getElem?_cons_succ, List.set_cons_zero, List.set_cons_succ, Bool.not_true, Bool.not_false, Bool.false_eq_true, if_true, if_false, gLen_t, List.length_map, List.length_range, k1]
    exact ⟨_, ω2, (sIf_t c0).trans ((sSeq_run s8r).trans fin), e3.le (by omega)⟩
  · rw [decide_eq_false hk] at c0
    exact ⟨s8, ω1, (sIf_f c0).trans rfl, d3.le (by omega)⟩
end
end K24

namespace K24
open PySem DL
section
variable {s0 s2 s3 s4 s5 s6 s7 s8 s9 s10 : Sl} {ω : Om} {b : Int} {fs : List Flt}
theorem demands_bad {d : D} (h : Gd d) (hn : areF d = false) (ω : Om) : f_demands_of [d] ω = .err ("BadFilter", []) ω := by
  rcases demands_of_run h ω with ⟨gs, e, e1, e2, e3, _⟩ | ⟨_, e⟩
  · have : areF (.tup (gs.map enc)) = true := by
      show (decide (1 ≤ (gs.map enc).length) && decide ((gs.map enc).length ≤ 12) && (gs.map enc).all isF) = true
      rw [List.length_map, decide_eq_true e2, decide_eq_true e3, all_enc e1]
      rfl
    rw [e, this] at hn
    cases hn
  · exact e
theorem needs_bad {d : D} (h : Gd d) (hn : isF d = false) (ω : Om) : f_needs_of [d] ω = .err ("BadFilter", []) ω := by
  rcases needs_of_run h ω with ⟨g, e, e1, _⟩ | ⟨_, e⟩
  · rw [e, isF_enc e1] at hn
    cases hn
  · exact e
abbrev odds (fs : List Flt) (f : Flt) : List D := [.tup [], .lst (fs.map enc), .tup (fs.map enc ++ [.non]), .tup (List.replicate 13 [enc f]).flatten, .non, .tup [.str "true"], .tup (fs.map enc ++ [.tup [.str "label", .str "B"]])]
theorem areF_app {l : List D} {d : D} (h : isF d = false) : areF (.tup (l ++ [d])) = false := by
  show (decide (1 ≤ (l ++ [d]).length) && decide ((l ++ [d]).length ≤ 12) && (l ++ [d]).all isF) = false
  rw [List.all_append, List.all_cons, h, Bool.false_and, Bool.and_false, Bool.and_false]
theorem odds_bad {f : Flt} (hfs : ∀ f ∈ fs, FF f) (h2 : fs.length ≤ 12) (hf : FF f) : ∀ y ∈ odds fs f, Gd y ∧ areF y = false := by
  have hm : ∀ d ∈ fs.map enc, Gd d := fun d hd => by
    obtain ⟨g, hg, rfl⟩ := List.mem_map.mp hd
    exact (gd_enc (hfs g hg).1.1).2
  have hl : (fs.map enc).length ≤ 12 := by rw [List.length_map]; exact h2
  have ap : ∀ x, Gd x → Gd (.tup (fs.map enc ++ [x])) := fun x hx => good_tup.mpr ⟨by rw [List.length_append, List.length_singleton]; show _ ≤ 10000; omega, fun d hd => by
    rcases List.mem_append.mp hd with hd | hd
    · exact hm d hd
    · rw [List.mem_singleton.mp hd]; exact hx⟩
  intro y hy
  simp only [odds, List.mem_cons, List.not_mem_nil, or_false] at hy
  rcases hy with h | h | h | h | h | h | h <;> rw [h]
  · exact ⟨by decide +kernel, rfl⟩
  · exact ⟨good_lst.mpr ⟨by show _ ≤ 10000; omega, hm⟩, rfl⟩
  · exact ⟨ap _ rfl, areF_app rfl⟩
  · refine ⟨good_tup.mpr ⟨by show 13 ≤ 10000; decide, fun d hd => ?_⟩, rfl⟩
    obtain ⟨l, hl, hd⟩ := List.mem_flatten.mp hd
    rw [List.eq_of_mem_replicate hl] at hd
    rw [List.mem_singleton.mp hd]
    exact (gd_enc hf.1.1).2
  · exact ⟨rfl, rfl⟩
  · exact ⟨by decide +kernel, by decide +kernel⟩
  · exact ⟨ap _ (by decide +kernel), areF_app (by decide +kernel)⟩
theorem P11_run (hfs : ∀ f ∈ fs, FF f) (h1 : 1 ≤ fs.length) (h2 : fs.length ≤ 12) (h : Tb b ω) (hb : b < 2 ^ 39) : ∃ y ω', P11 (sl s0 s2 (.val (.tup (fs.map enc))) s4 s5 s6 s7 s8 s9 s10) ω = .ok (.nx (sl s0 s2 (.val (.tup (fs.map enc))) s4 s5 s6 s7 s8 s9 (.val y))) ω' ∧ Gd y ∧ areF y = false ∧ Tb (b + 1) ω' := by
  have hz : sizeLine = 16777216 := rfl
  cases fs with
  | nil => simp at h1
  | cons f r =>
    have hf := hfs f (by simp)
    obtain ⟨y, ω', q1, q2, q3⟩ := pick_step (d := .lst (odds (f :: r) f)) (xs := odds (f :: r) f) rfl h (by omega) (by show 0 < 7; decide) (by show 7 < 2 ^ 24; decide)
    obtain ⟨o1, o2⟩ := odds_bad hfs h2 hf y q2
    refine ⟨y, ω', sSet_run (i := 10) ?_, o1, o2, q3⟩
    have hl : ((f :: r).map enc).length ≤ 12 := by rw [List.length_map]; exact h2
    have a1 : gAdd (.tup ((f :: r).map enc)) (.tup [.non]) = some (.tup ((f :: r).map enc ++ [.non])) := gAdd_T (by rw [List.length_singleton]; omega)
    have a2 : gAdd (.tup ((f :: r).map enc)) (.tup [.tup [.str "label", .str "B"]]) = some (.tup ((f :: r).map enc ++ [.tup [.str "label", .str "B"]])) := gAdd_T (by rw [List.length_singleton]; omega)
    have a3 : gRepT (.tup [enc f]) (.int 13) = some (.tup (List.replicate 13 [enc f]).flatten) := by
      show (if [enc f] ≠ [] ∧ (2 : Int) ≤ 13 ∧ (13 : Int) ≤ 1000 ∧ [enc f].length ≤ 1000 ∧ [enc f].length * (13 : Int).toNat ≤ sizeLine then some (D.tup (List.replicate (13 : Int).toNat [enc f]).flatten) else none) = _
      rw [if_pos ⟨by simp, by decide, by decide, by show 1 ≤ 1000; decide, by show 1 * 13 ≤ sizeLine; decide⟩]
      rfl
    have a4 : gIx (.tup ((f :: r).map enc)) (.int 0) = some (enc f) := gIx_t0 _ _
    have a5 : gLst (odds (f :: r) f) = some (.lst (odds (f :: r) f)) := gLst_ok (by show 7 ≤ sizeLine; decide)
    have e : L11 (sl s0 s2 (.val (.tup ((f :: r).map enc))) s4 s5 s6 s7 s8 s9 s10) ω = .ok (odds (f :: r) f) ω := by
      unfold L11
      simp only [sSeq, sIf, sSet, sRet, sNext, sExpr, sFor, sPar2, sRaise0, sBreak, sCont, sRetN, eOp2, eOp1, eOpN, eVar, eC, eIf, eAnd, eOr, eNot, DL.tB, tNot, tAnd, tOr, aCons, aNil, eCall, eSl, oNone, oSome, eChain, Rs.bind_ok, Rs.bind_err, rs1_some, List.getElem?_cons_zero, List.getElem?_cons_succ, List.set_cons_zero, List.set_cons_succ, Bool.not_true, Bool.not_false, Bool.false_eq_true, if_true, if_false, gTup_nil, gList_t, one_tup, two_tup, a1, a2, a3, a4]
    have e2 : eOpN gLst L11 (sl s0 s2 (.val (.tup ((f :: r).map enc))) s4 s5 s6 s7 s8 s9 s10) ω = .ok (.lst (odds (f :: r) f)) ω := by
      unfold eOpN
      rw [e, Rs.bind_ok, a5]
      rfl
    exact (eCall_run (aCons_run rfl (aCons_run e2 rfl))).trans q1
theorem P12_run {y : D} (h : Gd y) (hn : areF y = false) : P12 (sl s0 s2 s3 s4 s5 s6 s7 s8 s9 (.val y)) ω = .ok (.nx (sl s0 s2 s3 s4 s5 s6 s7 s8 s9 (.val y))) ω := by
  have d1 := demands_bad h hn ω
  have q : (DL.tB (eOpN (gIsc kb) (aCons (eCaught isx (eCall f_demands_of (aCons (eVar 10) aNil))) (aCons (eC (.glo "BadFilter")) aNil)))) (sl s0 s2 s3 s4 s5 s6 s7 s8 s9 (.val y)) ω = .ok true ω := by
    unfold DL.tB
    rw [caught_err (fe := eCall f_demands_of (aCons (eVar 10) aNil)) (ω1 := ω) (by simp only [sSeq, sIf, sSet, sRet, sNext, sExpr, sFor, sPar2, sRaise0, sBreak, sCont, sRetN, eOp2, eOp1, eOpN, eVar, eC, eIf, eAnd, eOr, eNot, DL.tB, tNot, tAnd, tOr, aCons, aNil, eCall, eSl, oNone, oSome, eChain, Rs.bind_ok, Rs.bind_err, rs1_some, List.getElem?_cons_zero, List.getElem?_cons_succ, List.set_cons_zero, List.set_cons_succ, Bool.not_true, Bool.not_false, Bool.false_eq_true, if_true, if_false, d1]), Rs.bind_ok]
  refine (sIf_f (ω1 := ω) ?_).trans rfl
  unfold tNot
  rw [q]
  rfl
abbrev oddN : List D := [.non, .tup [], .tup [.str "label"], .lst [.str "true"], .tup [.str "some", .tup [.tup [.str "up", .tup [.str "true"]]]]]
theorem oddN_bad : ∀ y ∈ oddN, Gd y ∧ isF y = false := by
  intro y hy
  simp only [oddN, List.mem_cons, List.not_mem_nil, or_false] at hy
  rcases hy with h | h | h | h | h <;> rw [h] <;> exact ⟨by decide +kernel, by decide +kernel⟩
theorem one_lst {a : D} : gLst [a] = some (.lst [a]) := gLst_ok (by show 1 ≤ sizeLine; decide)
theorem P13_run (h : Tb b ω) (hb : b < 2 ^ 39) : ∃ ω', P13 (sl s0 s2 s3 s4 s5 s6 s7 s8 s9 s10) ω = .ok (.rt (.bl true)) ω' := by
  obtain ⟨y, ω', q1, q2, q3⟩ := pick_step (d := .lst oddN) (xs := oddN) rfl h (by omega) (by decide) (by decide)
  obtain ⟨o1, o2⟩ := oddN_bad y q2
  have a5 : gLst oddN = some (.lst oddN) := gLst_ok (by show 5 ≤ sizeLine; decide)
  have e : L13 (sl s0 s2 s3 s4 s5 s6 s7 s8 s9 s10) ω = .ok oddN ω := by
    unfold L13
    simp only [sSeq, sIf, sSet, sRet, sNext, sExpr, sFor, sPar2, sRaise0, sBreak, sCont, sRetN, eOp2, eOp1, eOpN, eVar, eC, eIf, eAnd, eOr, eNot, DL.tB, tNot, tAnd, tOr, aCons, aNil, eCall, eSl, oNone, oSome, eChain, Rs.bind_ok, Rs.bind_err, rs1_some, List.getElem?_cons_zero, List.getElem?_cons_succ, List.set_cons_zero, List.set_cons_succ, Bool.not_true, Bool.not_false, Bool.false_eq_true, if_true, if_false, gTup_nil, one_tup, two_tup, one_lst]
  have e2 : eOpN gLst L13 (sl s0 s2 s3 s4 s5 s6 s7 s8 s9 s10) ω = .ok (.lst oddN) ω := by
    unfold eOpN
    rw [e, Rs.bind_ok, a5]
    rfl
  have e3 : eCall pickF (aCons (eVar 1) (aCons (eOpN gLst L13) aNil)) (sl s0 s2 s3 s4 s5 s6 s7 s8 s9 s10) ω = .ok y ω' := (eCall_run (aCons_run rfl (aCons_run e2 rfl))).trans q1
  refine ⟨ω', sRet_run (caught_err (ω1 := ω') ?_)⟩
  exact (eCall_run (aCons_run e3 rfl)).trans (needs_bad o1 o2 ω')
end
theorem law_true (ns : List Int) (h : ns.length ≤ 63) : ∃ ω', g_law (.val (.scr ns) :: .val .st :: List.replicate 9 .emp) (om0 ns) = .ok (.rt (.bl true)) ω' := by
  have t0 : Tb 0 (om0 ns) := ⟨Int.le_refl _, Int.le_refl _⟩
  have er : (Sl.val (.scr ns) :: .val .st :: List.replicate 9 .emp) = sl (.val (.scr ns)) .emp .emp .emp .emp .emp .emp .emp .emp .emp := rfl
  rw [er, g_law_eq]
  -- great or not
  obtain ⟨k, ω1, d1, d2, t1⟩ := eDrawI (δ := sl (.val (.scr ns)) .emp .emp .emp .emp .emp .emp .emp .emp .emp) 1 6 rfl t0 (by decide) (by decide) (by decide)
  have d1' : eCall drawF (aCons (eVar 1) (aCons (eC (.int 6)) aNil)) (sl (.val (.scr ns)) .emp .emp .emp .emp .emp .emp .emp .emp .emp) (om0 ns) = .ok (.int (k : Nat)) ω1 := d1
  have k0 : gEqX (.int (k : Nat)) (.int 0) = some (.bl (decide (k = 0))) := gEqX_nat k 0
  have r1 : sSet 2 (eOp2 gEqX (eCall drawF (aCons (eVar 1) (aCons (eC (.int 6)) aNil))) (eC (.int 0))) (sl (.val (.scr ns)) .emp .emp .emp .emp .emp .emp .emp .emp .emp) (om0 ns) = .ok (.nx (sl (.val (.scr ns)) (.val (.bl (decide (k = 0)))) .emp .emp .emp .emp .emp .emp .emp .emp)) ω1 := by
    refine sSet_run (i := 2) (d := .bl (decide (k = 0))) ?_
    simp only [eOp2, eC, d1', Rs.bind_ok, k0, rs1_some]
  generalize decide (k = 0) = g at r1
  have r2 : sNew 3 aNil (sl (.val (.scr ns)) (.val (.bl g)) .emp .emp .emp .emp .emp .emp .emp .emp) ω1 = .ok (.nx (sl (.val (.scr ns)) (.val (.bl g)) (.own (([] : List Flt).map enc)) .emp .emp .emp .emp .emp .emp .emp)) ω1 := rfl
  rw [sSeq_run r1, sSeq_run r2]
  -- the filters
  obtain ⟨m, ω2, e1, e2, t2⟩ := eDrawI (δ := sl (.val (.scr ns)) (.val (.bl g)) (.own (([] : List Flt).map enc)) .emp .emp .emp .emp .emp .emp .emp) 1 11 rfl t1 (by decide) (by decide) (by decide)
  have e1' : eCall drawF (aCons (eVar 1) (aCons (eC (.int 11)) aNil)) (sl (.val (.scr ns)) (.val (.bl g)) (.own (([] : List Flt).map enc)) .emp .emp .emp .emp .emp .emp .emp) ω1 = .ok (.int (m : Nat)) ω2 := e1
  have a1 : gAdd (.int 1) (.int (m : Nat)) = some (.int ((1 + m : Nat) : Int)) := gAdd_nat 1 m
  have ei : iRange (aCons (eOp2 gAdd (eC (.int 1)) (eCall drawF (aCons (eVar 1) (aCons (eC (.int 11)) aNil)))) aNil) (sl (.val (.scr ns)) (.val (.bl g)) (.own (([] : List Flt).map enc)) .emp .emp .emp .emp .emp .emp .emp) ω1 = .ok ((List.range (1 + m)).map fun (j : Nat) => D.int (j : Nat)) ω2 := by
    refine range_run (k := 1 + m) (aCons_run ?_ rfl) (by omega)
    simp only [eOp2, eC, Rs.bind_ok, e1', a1, rs1_some]
  obtain ⟨l, s4, ω3, z1, z2, z3, t3⟩ := lP3_run (s0 := .val (.scr ns)) (s5 := .emp) (s6 := .emp) (s7 := .emp) (s8 := .emp) (s9 := .emp) (s10 := .emp) (g := g) (List.range (1 + m)) [] .emp ω2 (0 + 1 + 1) (fun j hj => by have := List.mem_range.mp hj; omega) (by rw [List.length_range]; show 0 + (1 + m) < 1000; omega) (fun f h => nomatch h) t2 (by rw [List.length_range]; omega)
  rw [List.length_range] at z2 t3
  have z2' : l.length = 1 + m := by rw [z2]; exact Nat.zero_add _
  rw [sSeq_run ((sFor_run ei).trans z1)]
  have t3' := t3.le (c := 3000) (by omega)
  obtain ⟨fs, ω4, y1, y2, y3, y4, t4⟩ := P4_run (s0 := .val (.scr ns)) (s2 := .val (.bl g)) (s4 := s4) (s5 := .emp) (s6 := .emp) (s7 := .emp) (s8 := .emp) (s9 := .emp) (s10 := .emp) (l := l) (by omega) (by omega) z3 t3' (by decide)
  rw [sSeq_run y1]
  have hl12 : fs.length ≤ 12 := by omega
  have fz : frz 3 R5 (sl (.val (.scr ns)) (.val (.bl g)) (.own (fs.map enc)) s4 .emp .emp .emp .emp .emp .emp) ω4 = R5 (sl (.val (.scr ns)) (.val (.bl g)) (.val (.lst (fs.map enc))) s4 .emp .emp .emp .emp .emp .emp) ω4 := rfl
  rw [fz]
  have r5 : sSet 3 (eOpN gTuple (aCons (eVar 3) aNil)) (sl (.val (.scr ns)) (.val (.bl g)) (.val (.lst (fs.map enc))) s4 .emp .emp .emp .emp .emp .emp) ω4 = .ok (.nx (sl (.val (.scr ns)) (.val (.bl g)) (.val (.tup (fs.map enc))) s4 .emp .emp .emp .emp .emp .emp)) ω4 := rfl
  unfold R5
  rw [sSeq_run r5]
  have ei2 : iAny (eVar 3) (sl (.val (.scr ns)) (.val (.bl g)) (.val (.tup (fs.map enc))) s4 .emp .emp .emp .emp .emp .emp) ω4 = .ok (fs.map enc) ω4 := iAny_t rfl
  rcases lP6_run (s0 := .val (.scr ns)) (s2 := .val (.bl g)) (s4 := s4) (s6 := .emp) (s7 := .emp) (s8 := .emp) (s9 := .emp) (s10 := .emp) (ω := ω4) y2 (by omega) fs .emp (fun f h => h) with z | ⟨s5, z, hff⟩
  · exact ⟨ω4, sSeq_rt ((sFor_run ei2).trans z)⟩
  rw [sSeq_run ((sFor_run ei2).trans z)]
  obtain ⟨g1, g2, g3, g4⟩ := gathA_p hff y3 hl12
  have wd := w_demands_run hff hl12 ω4
  have r6 : sSet 6 (eCall f_w_fp_demands (aCons (eVar 3) aNil)) (sl (.val (.scr ns)) (.val (.bl g)) (.val (.tup (fs.map enc))) s4 s5 .emp .emp .emp .emp .emp) ω4 = .ok (.nx (sl (.val (.scr ns)) (.val (.bl g)) (.val (.tup (fs.map enc))) s4 s5 (.val (.tup ((gathA fs).map enc))) .emp .emp .emp .emp)) ω4 := by
    refine sSet_run (i := 6) (d := .tup ((gathA fs).map enc)) ?_
    simp only [sSeq, sIf, sSet, sRet, sNext, sExpr, sFor, sPar2, sRaise0, sBreak, sCont, sRetN, eOp2, eOp1, eOpN, eVar, eC, eIf, eAnd, eOr, eNot, DL.tB, tNot, tAnd, tOr, aCons, aNil, eCall, eSl, oNone, oSome, eChain, Rs.bind_ok, Rs.bind_err, rs1_some, List.getElem?_cons_zero, List.getElem?_cons_succ, List.set_cons_zero, List.set_cons_succ, Bool.not_true, Bool.not_false, Bool.false_eq_true, if_true, if_false, wd]
  rw [sSeq_run r6]
  unfold R8
  rw [sSeq_run (P8_run hff y3 hl12)]
  obtain ⟨s4', s7, ω5, p9, t5⟩ := P9_run (s0 := .val (.scr ns)) (s2 := .val (.bl g)) (s3 := .val (.tup (fs.map enc))) (s4 := s4) (s5 := s5) (s7 := .emp) (s8 := .emp) (s9 := .emp) (s10 := .emp) g1 g2 g3 g4 t4 (by decide)
  rw [sSeq_run p9]
  obtain ⟨s8, ω6, p10, t6⟩ := P10_run (s0 := .val (.scr ns)) (s2 := .val (.bl g)) (s3 := .val (.tup (fs.map enc))) (s4 := s4') (s5 := s5) (s6 := .val (.tup ((gathA fs).map enc))) (s7 := s7) (s8 := .emp) (s10 := .emp) t5 (by decide)
  rw [sSeq_run p10]
  obtain ⟨y, ω7, p11, o1, o2, t7⟩ := P11_run (s0 := .val (.scr ns)) (s2 := .val (.bl g)) (s4 := s4') (s5 := s5) (s6 := .val (.tup ((gathA fs).map enc))) (s7 := s7) (s8 := s8) (s9 := .emp) (s10 := .emp) hff y3 hl12 t6 (by decide)
  rw [sSeq_run p11, sSeq_run (P12_run o1 o2)]
  exact P13_run t7 (by decide)
end K24

namespace K24
open PySem PySem.Spec PyProof.Rows L2 LamX DL
theorem law_all {w : World} {K : PySem.W.Frag} {mg : Str → Option Value} {base : Heap} (fx : Fx w K mg base) (hB : ∃ fd, L2.FnOk Pr w K mg base (L2.CX Pr w) 1 (He.ga K "_law_begun") fd ["script"] (spBegun K (TT K)) ∧ L2.Binds K fd ["script"] [] ∧ PySem.W.keepIn K (.ref (He.ga K "_law_begun")) = true) : ∀ fd, L2.FunD K "law" "law" (L2.defArgs t_law) (L2.defBody t_law) (L2.defScope t_law) [] [] (He.ga K "law") fd → L2.FnOk Pr w K mg base (L2.CX Pr w) 113 (He.ga K "law") fd ["script"] (spLaw K (TT K) 9 g_law) := by
  have h_is_name : Cal Pr w K mg base "is_name" 1 ["value"] (PD (TT K)) f_is_name := r_is_name fx 
  have h_is_tuple_of : Cal Pr w K mg base "is_tuple_of" 1 ["value", "size"] (PD (TT K)) f_is_tuple_of := r_is_tuple_of fx 
  have h_is_headed : Cal Pr w K mg base "is_headed" 1 ["value"] (PD (TT K)) f_is_headed := r_is_headed fx 
  have h_is_alone : Cal Pr w K mg base "is_alone" 1 ["value"] (PD (TT K)) f_is_alone := r_is_alone fx 
  have h_is_named : Cal Pr w K mg base "is_named" 2 ["value"] (PD (TT K)) f_is_named := r_is_named fx h_is_name
  have h_filter_nodes : Cal Pr w K mg base "filter_nodes" 30 ["value", "deep"] (PD (TT K)) (f_filter_nodes 14) := (c_filter_nodes fx h_is_alone h_is_headed h_is_named h_is_tuple_of 14).up (by decide)
  have h_is_filter : Cal Pr w K mg base "is_filter" 31 ["value"] (PD (TT K)) f_is_filter := r_is_filter fx h_filter_nodes
  have h_needs_at : Cal Pr w K mg base "needs_at" 1 ["one"] (PD (TT K)) f_needs_at := r_needs_at fx 
  have h_needs_atA : Cal Pr w K mg base "needs_at" 1 ["one"] (AccP K) f_needs_at := r_needs_at fx 
  have h_needs_of : Cal Pr w K mg base "needs_of" 32 ["one"] (PD (TT K)) f_needs_of := r_needs_of fx h_is_filter h_needs_at
  have h_gathered : Cal Pr w K mg base "gathered" 65 ["one", "found"] (AccP K) (f_gathered 64) := (c_gathered fx h_needs_atA 64).up (by decide)
  have h_are_filters : Cal Pr w K mg base "are_filters" 32 ["value"] (PD (TT K)) f_are_filters := r_are_filters fx h_is_filter
  have h_demands_of : Cal Pr w K mg base "demands_of" 66 ["filters"] (PD (TT K)) f_demands_of := r_demands_of fx h_are_filters h_gathered
  have h_is_demands : Cal Pr w K mg base "is_demands" 32 ["value"] (PD (TT K)) f_is_demands := r_is_demands fx h_is_filter h_needs_at
  have h_w_blended := (r_w_blended fx ).as blendF_ok
  have h_w_draw := (r_w_draw fx h_w_blended).as drawF_ok
  have h_w_pick := (r_w_pick fx h_w_draw).as pickF_ok
  have h_w_is_truth := r_w_is_truth fx 
  have h_w_is_whole := r_w_is_whole fx 
  have h_w_odd := r_w_odd fx h_w_pick
  have h_w_bent : Cal Pr w K mg base "_law_bent" 52 ["state", "item"] (PD (TT K)) (f_w_bent 48) := (c_w_bent fx h_w_draw h_w_is_whole h_w_odd h_w_pick 48).up (by decide)
  have h_w_tr_filter : Cal Pr w K mg base "_law_tr_filter" 13 ["state", "deep"] (PD (TT K)) (f_w_tr_filter 5) := (c_w_tr_filter fx h_w_draw h_w_pick 5).up (by decide)
  have h_w_fp_same : Cal Pr w K mg base "_law_fp_same" 65 ["found", "due"] (PD (TT K)) (f_w_fp_same 64) := (c_w_fp_same fx h_w_is_truth h_w_is_whole 64).up (by decide)
  have h_w_fp_needs := r_w_fp_needs fx 
  have h_w_fp_demands := r_w_fp_demands fx h_w_fp_needs
  have h_w_k24_is_name := r_w_k24_is_name fx 
  have h_w_k24_nodes : Cal Pr w K mg base "_law_k24_nodes" 29 ["value", "deep"] (PD (TT K)) (f_w_k24_nodes 14) := (c_w_k24_nodes fx h_w_k24_is_name 14).up (by decide)
  have h_w_k24_is := r_w_k24_is fx h_w_fp_needs h_w_k24_nodes
  have h_w_k24_great := r_w_k24_great fx h_w_draw h_w_pick
  have h_w_k24_exchanged := r_w_k24_exchanged fx h_w_fp_needs h_w_pick
  exact r_law fx hB h_w_bent h_w_draw h_w_fp_demands h_w_fp_needs h_w_fp_same h_w_is_truth h_w_k24_exchanged h_w_k24_great h_w_k24_is h_w_k24_nodes h_w_pick h_w_tr_filter h_demands_of h_is_demands h_needs_of
theorem fx_of {w : World} {K : PySem.W.Frag} {h : Heap} {mg : Str → Option Value} {base : Heap} (X : K.In h) (G : h.Ns mainGlobals mg) (c : He.SaysX fa fn [] tf ex w h K) (tb : ∀ p ∈ tf.map (He.cT K), TabB base mg p.1 p.2) : Fx w K mg base := by
  have c1 := c.t.d
  have e1 := He.ba c.more
  have e2 := He.ba e1.2
  have e3 := He.ba e2.2
  have nd : (tf.map fun p => (He.cT K p).2).Nodup := of_decide_eq_true e3.1
  have e7 : exT K = true := e3.2
  refine ⟨c1.def_ 0 (d := d_is_name) rfl, He.glo_ok X G (c1.fact 0 (f := .glo "is_name") rfl), c1.def_ 1 (d := d_is_tuple_of) rfl, He.glo_ok X G (c1.fact 1 (f := .glo "is_tuple_of") rfl), c1.def_ 2 (d := d_is_headed) rfl, He.glo_ok X G (c1.fact 2 (f := .glo "is_headed") rfl), c1.def_ 3 (d := d_is_alone) rfl, He.glo_ok X G (c1.fact 3 (f := .glo "is_alone") rfl), c1.def_ 4 (d := d_is_named) rfl, He.glo_ok X G (c1.fact 4 (f := .glo "is_named") rfl), c1.def_ 5 (d := d_path_nodes) rfl, He.glo_ok X G (c1.fact 5 (f := .glo "path_nodes") rfl), c1.def_ 6 (d := d_filter_nodes) rfl, He.glo_ok X G (c1.fact 6 (f := .glo "filter_nodes") rfl), c1.def_ 7 (d := d_is_filter) rfl, He.glo_ok X G (c1.fact 7 (f := .glo "is_filter") rfl), c1.def_ 8 (d := d_needs_at) rfl, He.glo_ok X G (c1.fact 8 (f := .glo "needs_at") rfl), c1.def_ 9 (d := d_needs_of) rfl, He.glo_ok X G (c1.fact 9 (f := .glo "needs_of") rfl), c1.def_ 10 (d := d_gathered) rfl, He.glo_ok X G (c1.fact 10 (f := .glo "gathered") rfl), c1.def_ 11 (d := d_are_filters) rfl, He.glo_ok X G (c1.fact 11 (f := .glo "are_filters") rfl), c1.def_ 12 (d := d_demands_of) rfl, He.glo_ok X G (c1.fact 12 (f := .glo "demands_of") rfl), c1.def_ 13 (d := d_is_demands) rfl, He.glo_ok X G (c1.fact 13 (f := .glo "is_demands") rfl), c1.def_ 14 (d := d_w_begun) rfl, He.glo_ok X G (c1.fact 14 (f := .glo "_law_begun") rfl), c1.def_ 15 (d := d_w_blended) rfl, He.glo_ok X G (c1.fact 15 (f := .glo "_law_blended") rfl), c1.def_ 16 (d := d_w_draw) rfl, He.glo_ok X G (c1.fact 16 (f := .glo "_law_draw") rfl), c1.def_ 17 (d := d_w_pick) rfl, He.glo_ok X G (c1.fact 17 (f := .glo "_law_pick") rfl), c1.def_ 18 (d := d_w_caught) rfl, He.glo_ok X G (c1.fact 18 (f := .glo "_law_caught") rfl), c1.def_ 19 (d := d_w_is_truth) rfl, He.glo_ok X G (c1.fact 19 (f := .glo "_law_is_truth") rfl), c1.def_ 20 (d := d_w_is_whole) rfl, He.glo_ok X G (c1.fact 20 (f := .glo "_law_is_whole") rfl), c1.def_ 21 (d := d_w_odd) rfl, He.glo_ok X G (c1.fact 21 (f := .glo "_law_odd") rfl), c1.def_ 22 (d := d_w_bent) rfl, He.glo_ok X G (c1.fact 22 (f := .glo "_law_bent") rfl), c1.def_ 23 (d := d_w_tr_path) rfl, He.glo_ok X G (c1.fact 23 (f := .glo "_law_tr_path") rfl), c1.def_ 24 (d := d_w_tr_filter) rfl, He.glo_ok X G (c1.fact 24 (f := .glo "_law_tr_filter") rfl), c1.def_ 25 (d := d_w_fp_same) rfl, He.glo_ok X G (c1.fact 25 (f := .glo "_law_fp_same") rfl), c1.def_ 26 (d := d_w_fp_needs) rfl, He.glo_ok X G (c1.fact 26 (f := .glo "_law_fp_needs") rfl), c1.def_ 27 (d := d_w_fp_demands) rfl, He.glo_ok X G (c1.fact 27 (f := .glo "_law_fp_demands") rfl), c1.def_ 28 (d := d_w_k24_is_name) rfl, He.glo_ok X G (c1.fact 28 (f := .glo "_law_k24_is_name") rfl), c1.def_ 29 (d := d_w_k24_steps) rfl, He.glo_ok X G (c1.fact 29 (f := .glo "_law_k24_steps") rfl), c1.def_ 30 (d := d_w_k24_nodes) rfl, He.glo_ok X G (c1.fact 30 (f := .glo "_law_k24_nodes") rfl), c1.def_ 31 (d := d_w_k24_is) rfl, He.glo_ok X G (c1.fact 31 (f := .glo "_law_k24_is") rfl), c1.def_ 32 (d := d_w_k24_great) rfl, He.glo_ok X G (c1.fact 32 (f := .glo "_law_k24_great") rfl), c1.def_ 33 (d := d_w_k24_exchanged) rfl, He.glo_ok X G (c1.fact 33 (f := .glo "_law_k24_exchanged") rfl), c1.def_ 34 (d := d_law) rfl, He.glo_ok X G (c1.fact 34 (f := .glo "law") rfl), He.glo_ok X G (c1.fact 35 (f := .glo "AXES") rfl), He.glo_ok X G (c1.fact 36 (f := .glo "BadFilter") rfl), He.glo_ok X G (c1.fact 37 (f := .glo "LeafError") rfl), (He.exc_ok (c1.fact 59 (f := .exc "BadFilter") rfl)).1, (He.exc_ok (c1.fact 59 (f := .exc "BadFilter") rfl)).2.1, (He.exc_ok (c1.fact 59 (f := .exc "BadFilter") rfl)).2.2, He.free_ok X G (c1.fact 38 (f := .free "abs") rfl), He.free_ok X G (c1.fact 39 (f := .free "all") rfl), He.free_ok X G (c1.fact 40 (f := .free "bool") rfl), He.free_ok X G (c1.fact 41 (f := .free "enumerate") rfl), He.free_ok X G (c1.fact 42 (f := .free "int") rfl), He.free_ok X G (c1.fact 43 (f := .free "isinstance") rfl), He.free_ok X G (c1.fact 44 (f := .free "len") rfl), He.free_ok X G (c1.fact 45 (f := .free "list") rfl), He.free_ok X G (c1.fact 46 (f := .free "range") rfl), He.free_ok X G (c1.fact 47 (f := .free "str") rfl), He.free_ok X G (c1.fact 48 (f := .free "sum") rfl), He.free_ok X G (c1.fact 49 (f := .free "tuple") rfl), He.free_ok X G (c1.fact 50 (f := .free "zip") rfl), He.int_ok X G (c1.fact 51 (f := .int "MOST_ASKS" 12) rfl), He.int_ok X G (c1.fact 52 (f := .int "MOST_CONTENT" 60) rfl), He.int_ok X G (c1.fact 53 (f := .int "MOST_DEEP" 12) rfl), He.int_ok X G (c1.fact 54 (f := .int "MOST_DEMANDS" 800) rfl), He.int_ok X G (c1.fact 55 (f := .int "MOST_NAME" 12) rfl), He.int_ok X G (c1.fact 56 (f := .int "MOST_STEPS" 8) rfl), He.str_ok X G (c1.fact 57 (f := .str "FIGURES" "0123456789") rfl), He.str_ok X G (c1.fact 58 (f := .str "SMALL" "abcdefghijklmnopqrstuvwxyz") rfl), e7, e1.1, e2.1, isx_of fun d hd => ?isx, tb _ (List.mem_map.mpr ⟨("law", none), by simp [tf], rfl⟩), ?hu0⟩
  case isx =>
    rcases List.mem_cons.mp hd with rfl | hd
    · exact He.exm_ok (c1.fact 60 (f := .exm "BadFilter" "LeafError" true) rfl)
    · cases hd
  case hu0 => exact hu_of (ts := TT K) nd List.mem_cons_self
theorem begun {w : World} {K : PySem.W.Frag} {mg : Str → Option Value} {base : Heap} (fx : Fx w K mg base) : ∃ fd, FnOk Pr w K mg base (L2.CX Pr w) 1 (He.ga K "_law_begun") fd ["script"] (spBegun K (TT K)) ∧ Binds K fd ["script"] [] ∧ PySem.W.keepIn K (.ref (He.ga K "_law_begun")) = true := by
  obtain ⟨fd, F⟩ := fx.f_w_begun
  have sc : FnScope ["script", "great", "cell"] ["script"] (defScope t_w_begun) := ⟨rfl, rfl, rfl, by decide +kernel, rfl, by decide +kernel, by decide +kernel⟩
  refine ⟨fd, begun_ok (k := 0) (T := TT K) (fun_of F) sc (.inl rfl) (fun cdv A outer s H E hr tk => ?_), FunD.bindsN F (fun _ _ _ _ _ _ us hl => match us, hl with | [_], _ => rfl), F.kp⟩
  refine ⟨_, _, _, _, _, _, _, _, _, _, _, rfl, ?_, ?_⟩
  · exact sd_newLc (i := 1) rfl sc.nd rfl rfl (by first | rfl | exact sw_true rfl rfl rfl rfl) (id_lst (pd_var 0)) (blkOk_by (own := [("cell", 2)]) (by kernel_rfl)) (fun p => gd_name (i := 2) sc.nd rfl (by first | exact .inl rfl | exact .inr rfl)) (fun p => (tsd_one (td_cmp op_ge o_ge (by first | exact nobehind _ (by decide) (by decide) | rfl) (pd_callB call_abs o_abs fx.n_abs (by decide +kernel) (ad_cons (pd_var 2) ad_nil)) (pd_op op_pow o_pow pd_int pd_int)))) (fun p => pd_op op_sub o_sub (pd_callB call_abs o_abs fx.n_abs (by decide +kernel) (ad_cons (pd_var 2) ad_nil)) (pd_op op_pow o_pow pd_int pd_int))
  · exact lc_new (W := ⟨E, PN⟩) rfl sc.nd (id_lst (pd_var 0)) (blkOk_by (own := [("cell", 2)]) (by kernel_rfl)) (fun p => gd_name (i := 2) sc.nd rfl (by first | exact .inl rfl | exact .inr rfl)) (fun p => tsd_nil) (fun p => pd_callB call_abs o_abs fx.n_abs (by decide +kernel) (ad_cons (pd_var 2) ad_nil))
theorem lawAt (hlaw : ∀ {w : World} {K : PySem.W.Frag} {mg : Str → Option Value} {base : Heap}, Fx w K mg base → ∀ fd, FunD K "law" "law" (defArgs t_law) (defBody t_law) (defScope t_law) [] [] (He.ga K "law") fd → FnOk Pr w K mg base (L2.CX Pr w) 113 (He.ga K "law") fd ["script"] (spLaw K (TT K) 9 g_law))
    (math : ∀ ns : List Int, ns.length ≤ 63 → ∃ ω', g_law (.val (.scr ns) :: .val .st :: List.replicate 9 .emp) (om0 ns) = .ok (.rt (.bl true)) ω') {w : World} {K : PySem.W.Frag} {h : Heap} {mg : Str → Option Value} {f : Addr} (X : K.In h) (G : h.Ns mainGlobals mg) (hfa : mg ("law" : Str) = some (.ref f)) (c : He.SaysX fa fn [] tf ex w h K) :
    LamX.LawAtS PySem.Challenge.rw_sureleaves_k24_demands w K (L2.CX Pr w) 113 63 "script" mg f h := by
  obtain ⟨fd, F⟩ := c.t.d.def_ 34 (d := d_law) rfl
  have e : f = He.ga K "law" := by
    have q := hfa.symm.trans (He.glo_ok X G (c.t.d.fact 34 (f := .glo "law") rfl))
    exact Value.ref.inj (Option.some.inj q)
  subst e
  have b := FunD.bindsA (ps := ["script"]) F fun _ _ _ _ _ _ us hl => match us, hl with | [_], _ => rfl
  refine ⟨fd, tf.map (He.cT K), spLaw K (TT K) 9 g_law, fun p hp => ?_, fun p hp => ?_, fun p hp => ?_, fun s u => b s [u] rfl, fun H a ns hl _ hT hS => ⟨a, ns, rfl, hS, Nat.le_trans hl (by decide), tabs_new fun p hp => ?_, math ns hl, fun _ => rfl⟩, fun base hb hns TB => hlaw (fx_of X G c TB) fd F⟩
  · obtain ⟨q, hq, rfl⟩ := List.mem_map.mp hp
    exact c.empty q hq
  · obtain ⟨q, hq, rfl⟩ := List.mem_map.mp hp
    exact c.out q hq
  · obtain ⟨q, hq, rfl⟩ := List.mem_map.mp hp
    exact PySem.W.codeHd_of_K X (c.hd q hq)
  · have e : (TT K).map (·.1) = (tf.map (He.cT K)).map (·.2) := rfl
    have m : p.1 ∈ (tf.map (He.cT K)).map (·.2) := by rw [← e]; exact List.mem_map.mpr ⟨p, hp, rfl⟩
    obtain ⟨q, hq, eq⟩ := List.mem_map.mp m
    rw [← eq]
    exact hT q hq
end K24
open PySem PySem.W PySem.Calls PyProof.Rows
theorem PySem.Challenge.cw_sureleaves_k24_demands_holds : PySem.Challenge.rw_sureleaves_k24_demands.Holds := by
  w_on; o_law
  refine HandSHeadRun.head_any (r := OpenLaw.row PySem.Challenge.rw_sureleaves_k24_demands) (q := view (OpenLaw.row PySem.Challenge.rw_sureleaves_k24_demands).prog [50]) (H := K24.hk) (ob := K24.ob) (M := 6000) (loose := K24.loose) (d := HandSHeadRun.topDef (OpenLaw.row PySem.Challenge.rw_sureleaves_k24_demands).prog 50) (kwd := []) K24.ob_eq
    (by kernel_rfl) (fun s => by kernel_rfl) K24.run (by kernel_rfl) (by kernel_rfl) (by kernel_rfl) (by rfl) (by first | assumption | decide +kernel) (by decide +kernel) ⟨rfl, rfl, rfl, rfl, rfl, by decide +kernel⟩ ?hw ?hc
  case hw => w_witness2
  case hc =>
    refine LamX.walk_ofTsE (l := PySem.Challenge.rw_sureleaves_k24_demands) (n := 63) (k := 113) (x := "script") (CX := fun w => L2.CX (PySem.Challenge.rw_sureleaves_k24_demands).prog w) rfl (by decide) (by kernel_rfl) ⟨rfl, by decide, by decide⟩ ?F (fun w H s e s' z => by obtain ⟨_, _, _, _, _, _, _, _, _, _, _, _, q⟩ := z; exact q.elim)
    intro w mg fa h Y G hmg0
    obtain ⟨K, KX, c⟩ := Y
    have hmg : mg ("law" : PySem.Str) = some (.ref fa) := by
      have e : (HandSHeadRun.topDef (OpenLaw.row PySem.Challenge.rw_sureleaves_k24_demands).prog 50).name = ("law" : PySem.Str) := by kernel_rfl
      rw [← e]
      exact hmg0
    exact ⟨K, KX, K24.lawAt (fun fx => K24.law_all fx (K24.begun fx)) K24.law_true KX G hmg c⟩

