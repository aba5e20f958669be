import PyProof.Rows.All
import Wide.All
import OpenK.AllK
import Wide.FinOn
import HandS.ForMost
import HandS.ForExc
import HandS.Lambda
import HandS.ExcValue
import HandS.ExcIs
import HandS.HeadHook4
import HandS.TupAny
import HandS.IsInst
import HandS.Small
import KE.GoesEnum
import PyProof.EnumMake
import HandS.Style
import PyProof.StrOps2
import KE.KRevSl
import HandS.StrMore
import HandS.Text
import HandS.HeadWalk
import HandS.Codes
import KE.KExcSuper
import KE.KSuper
import HandS.ExcInit
import HandS.ExcBuiltin
import HandS.ExcSuper
import HandS.Ends
import KE.KExcIs
import HandS.ExcField
import HandS.Iter
import KE.KStateDown
import HandS.More
import HandS.Words
import HandS.WordsExc
import HandS.Defaults
import HandS.Head0
import HandS.Head1
import HandS.Head2
import HandS.HeadEnd
import HandS.HeadHook1
import HandS.HeadHook2
import HandS.HeadHook3
import PySem.Challenge.RW_sureleaves_k00_errors_apart
set_option Elab.async false
set_option linter.all false
set_option maxRecDepth 100000
set_option maxHeartbeats 0
namespace DL
open PySem PySem.Spec PyProof.Rows L2

/-! ### data -/
inductive D where
  | non
  | bl (b : Bool)
  | int (i : Int)
  | str (x : Str)
  | tup (xs : List D)
  | lst (xs : List D)
  | scr (ns : List Int)
  | st
  | exc (c : Str) (fs : List (Str × D))
  | ty (n : String)
  | glo (x : Str)
/-- the state of the draws -/
structure Om where
  great : List Int
  cells : List Int
  left : Int
  turn : Int

/-- an exception that is held as a value: its class, its own dict -/
def ExV (cls : Value) (d : Option Addr) (a : Addr) : HO := .ext fun h => ∃ (oe : Obj) (vs : Array Value), h.get? a = some oe ∧ Zc cls d oe ∧ oe.data = .fields vs

/-- a list that nothing changes -/
def SqF (K : PySem.W.Frag) (H : Hp) (a : Addr) (xs : List V) : Prop := (∃ o, H a = some (.frz o (.lst xs))) ∨
  ∃ (o : Obj) (its : Array Value) (n : Nat), K.lookup a = some o ∧ o.cls = .type "list" ∧ o.dict = none ∧ o.data = .seq its n ∧ its.size ≤ sizeLine ∧ Vals xs its.toList
theorem SqF.sq {K : PySem.W.Frag} {H : Hp} {a : Addr} {xs : List V} (h : SqF K H a xs) : SqL K H a xs := by
  rcases h with ⟨o, h⟩ | h
  · exact .inl (.inr ⟨o, h⟩)
  · exact .inr h
mutual
/-- V is the datum D in the heap H; N: addresses that are not for data -/
inductive Rep (K : PySem.W.Frag) (sa : Addr) (N : Addr → Prop) (H : Hp) : V → D → Prop
  | non : Rep K sa N H .non .non
  | bl (b : Bool) : Rep K sa N H (.bl b) (.bl b)
  | int (i : Int) : Rep K sa N H (.int i) (.int i)
  | str (x : Str) : Rep K sa N H (.str x) (.str x)
  | tup {a : Addr} {xs : List V} {ds : List D} : SqT K H a xs → xs.length ≤ sizeLine → Reps K sa N H xs ds → Rep K sa N H (.ref a) (.tup ds)
  | lst {a : Addr} {xs : List V} {ds : List D} : H a = some (.lst xs) → ¬ N a → xs.length ≤ sizeLine → Reps K sa N H xs ds → Rep K sa N H (.ref a) (.lst ds)
  | scr {a : Addr} {ns : List Int} : SqF K H a (ns.map V.int) → ns.length ≤ sizeLine → Rep K sa N H (.ref a) (.scr ns)
  | scrL {a : Addr} {ns : List Int} : H a = some (.lst (ns.map V.int)) → ¬ N a → ns.length ≤ sizeLine → Rep K sa N H (.ref a) (.scr ns)
  | st : Rep K sa N H (.ref sa) .st
  | ty (n : String) : Rep K sa N H (.ty n) (.ty n)
  | glo (x : Str) : Rep K sa N H (.ref (He.ga K x)) (.glo x)
  | exc0 {a : Addr} {c : Str} : H a = some (ExV (.ref (He.ga K c)) none a) → Rep K sa N H (.ref a) (.exc c [])
  | exc1 {a dd : Addr} {c f : Str} {v : V} {x : D} : H a = some (ExV (.ref (He.ga K c)) (some dd) a) → H dd = some (.xd [(f, v)]) → Rep K sa N H v x → Rep K sa N H (.ref a) (.exc c [(f, x)])
inductive Reps (K : PySem.W.Frag) (sa : Addr) (N : Addr → Prop) (H : Hp) : List V → List D → Prop
  | nil : Reps K sa N H [] []
  | cons {v : V} {vs : List V} {d : D} {ds : List D} : Rep K sa N H v d → Reps K sa N H vs ds → Reps K sa N H (v :: vs) (d :: ds)
end

/-- what stays when only the objects of Z change -/
def keepO (Z : Addr → Prop) (b : Addr) : HO → Prop
  | .lst _ => ¬ Z b
  | .dK _ => ¬ Z b
  | .dT _ => ¬ Z b
  | .set _ _ => ¬ Z b
  | .ins _ _ _ => ¬ Z b
  | .tbl _ => False
  | _ => True
/-- no table of code objects -/
def NT : HO → Prop
  | .tbl _ => False
  | _ => True
theorem NT.of_keep {Z : Addr → Prop} {b : Addr} : ∀ {o : HO}, keepO Z b o → NT o
  | .lst _, _ => trivial
  | .dK _, _ => trivial
  | .dT _, _ => trivial
  | .set _ _, _ => trivial
  | .ins _ _ _, _ => trivial
  | .tbl _, k => k
  | .tup _, _ => trivial
  | .own _, _ => trivial
  | .xd _, _ => trivial
  | .met _ _, _ => trivial
  | .rng _ _, _ => trivial
  | .frz _ _, _ => trivial
  | .ext _, _ => trivial
/-- tracked, and no table -/
def Tr (H : Hp) (b : Addr) : Prop := ∃ o, H b = some o ∧ NT o
theorem Tr.not {H : Hp} {b : Addr} (h : H b = none) : ¬ Tr H b := fun ⟨o, e, _⟩ => by rw [h] at e; cases e
structure Fr (Z : Addr → Prop) (H H' : Hp) : Prop where
  keep : ∀ b o, H b = some o → keepO Z b o → H' b = some o
  there : ∀ b, Tr H b → Tr H' b
theorem Fr.refl {Z : Addr → Prop} (H : Hp) : Fr Z H H := ⟨fun _ _ h _ => h, fun _ h => h⟩
theorem Fr.trans {Z : Addr → Prop} {H H1 H2 : Hp} (a : Fr Z H H1) (b : Fr Z H1 H2) : Fr Z H H2 :=
  ⟨fun c o h k => b.keep c o (a.keep c o h k) k, fun c h => b.there c (a.there c h)⟩
theorem Fr.same {Z : Addr → Prop} {H H' : Hp} (s : Same H H') : Fr Z H H' := ⟨fun b o h _ => s b o h, fun b ⟨o, h, n⟩ => ⟨o, s b o h, n⟩⟩
theorem same_upd {H : Hp} {p : Addr} {o : HO} (h : H p = none) : Same H (upd H p o) := fun b x e => by
  rw [upd_ne (ne_of_none e h)]
  exact e
section
variable {K : PySem.W.Frag} {sa : Addr} {N N' Z : Addr → Prop} {H H' : Hp}
theorem Fr.sqT {a : Addr} {xs : List V} (f : Fr Z H H') (h : SqT K H a xs) : SqT K H' a xs := by
  rcases h with (h | ⟨o, h⟩) | h
  · exact .inl (.inl (f.keep _ _ h trivial))
  · exact .inl (.inr ⟨o, f.keep _ _ h trivial⟩)
  · exact .inr h
theorem Fr.sqF {a : Addr} {xs : List V} (f : Fr Z H H') (h : SqF K H a xs) : SqF K H' a xs := by
  rcases h with ⟨o, h⟩ | h
  · exact .inl ⟨o, f.keep _ _ h trivial⟩
  · exact .inr h
mutual
theorem Rep.mono (f : Fr Z H H') (hz : ∀ b, Z b → N b) : ∀ {v : V} {d : D}, Rep K sa N H v d → Rep K sa N H' v d
  | _, _, .non => .non
  | _, _, .bl b => .bl b
  | _, _, .int i => .int i
  | _, _, .str x => .str x
  | _, _, .tup h l r => .tup (f.sqT h) l (Reps.mono f hz r)
  | _, _, .lst h n l r => .lst (f.keep _ _ h fun z => n (hz _ z)) n l (Reps.mono f hz r)
  | _, _, .scr h l => .scr (f.sqF h) l
  | _, _, .scrL h n l => .scrL (f.keep _ _ h fun z => n (hz _ z)) n l
  | _, _, .st => .st
  | _, _, .ty n => .ty n
  | _, _, .glo x => .glo x
  | _, _, .exc0 h => .exc0 (f.keep _ _ h trivial)
  | _, _, .exc1 h h2 r => .exc1 (f.keep _ _ h trivial) (f.keep _ _ h2 trivial) (Rep.mono f hz r)
theorem Reps.mono (f : Fr Z H H') (hz : ∀ b, Z b → N b) : ∀ {vs : List V} {ds : List D}, Reps K sa N H vs ds → Reps K sa N H' vs ds
  | _, _, .nil => .nil
  | _, _, .cons r rs => .cons (Rep.mono f hz r) (Reps.mono f hz rs)
end
mutual
/-- other addresses are shut -/
theorem Rep.less (hn : ∀ b, N' b → Tr H b → N b) : ∀ {v : V} {d : D}, Rep K sa N H v d → Rep K sa N' H v d
  | _, _, .non => .non
  | _, _, .bl b => .bl b
  | _, _, .int i => .int i
  | _, _, .str x => .str x
  | _, _, .tup h l r => .tup h l (Reps.less hn r)
  | _, _, .lst h n l r => .lst h (fun z => n (hn _ z ⟨_, h, trivial⟩)) l (Reps.less hn r)
  | _, _, .scr h l => .scr h l
  | _, _, .scrL h n l => .scrL h (fun z => n (hn _ z ⟨_, h, trivial⟩)) l
  | _, _, .st => .st
  | _, _, .ty n => .ty n
  | _, _, .glo x => .glo x
  | _, _, .exc0 h => .exc0 h
  | _, _, .exc1 h h2 r => .exc1 h h2 (Rep.less hn r)
theorem Reps.less (hn : ∀ b, N' b → Tr H b → N b) : ∀ {vs : List V} {ds : List D}, Reps K sa N H vs ds → Reps K sa N' H vs ds
  | _, _, .nil => .nil
  | _, _, .cons r rs => .cons (Rep.less hn r) (Reps.less hn rs)
end
theorem Reps.len : ∀ {vs : List V} {ds : List D}, Reps K sa N H vs ds → vs.length = ds.length
  | _, _, .nil => rfl
  | _, _, .cons _ rs => congrArg (· + 1) (Reps.len rs)
theorem Reps.get : ∀ {vs : List V} {ds : List D} {i : Nat} {v : V}, Reps K sa N H vs ds → vs[i]? = some v → ∃ d, ds[i]? = some d ∧ Rep K sa N H v d
  | _, _, _, _, .nil, e => by simp at e
  | _, _, 0, _, .cons r _, e => by simp at e; subst e; exact ⟨_, rfl, r⟩
  | _, _, i + 1, v, .cons _ t, e => by
    obtain ⟨u, h1, h2⟩ := Reps.get (i := i) (v := v) t (by simpa using e)
    exact ⟨u, by simpa using h1, h2⟩
theorem Reps.getD : ∀ {vs : List V} {ds : List D} {i : Nat} {d : D}, Reps K sa N H vs ds → ds[i]? = some d → ∃ v, vs[i]? = some v ∧ Rep K sa N H v d
  | _, _, _, _, .nil, e => by simp at e
  | _, _, 0, _, .cons r _, e => by simp at e; subst e; exact ⟨_, rfl, r⟩
  | _, _, i + 1, v, .cons _ t, e => by
    obtain ⟨u, h1, h2⟩ := Reps.getD (i := i) (d := v) t (by simpa using e)
    exact ⟨u, by simpa using h1, h2⟩
theorem Reps.app : ∀ {vs ws : List V} {ds es : List D}, Reps K sa N H vs ds → Reps K sa N H ws es → Reps K sa N H (vs ++ ws) (ds ++ es)
  | _, _, _, _, .nil, s => s
  | _, _, _, _, .cons r t, s => .cons r (Reps.app t s)
theorem Reps.take : ∀ {vs : List V} {ds : List D} (n : Nat), Reps K sa N H vs ds → Reps K sa N H (vs.take n) (ds.take n)
  | _, _, 0, _ => .nil
  | _, _, _ + 1, .nil => .nil
  | _, _, n + 1, .cons r t => .cons r (Reps.take n t)
theorem Reps.drop : ∀ {vs : List V} {ds : List D} (n : Nat), Reps K sa N H vs ds → Reps K sa N H (vs.drop n) (ds.drop n)
  | _, _, 0, r => r
  | _, _, _ + 1, .nil => .nil
  | _, _, n + 1, .cons _ t => Reps.drop n t
end

/-! ### results -/
abbrev Ex := Str × List (Str × D)
inductive Rs (α : Type) where
  | ok (a : α) (ω : Om)
  | err (x : Ex) (ω : Om)
  | bad
def Rs.bind {α β : Type} (r : Rs α) (k : α → Om → Rs β) : Rs β := match r with
  | .ok a ω => k a ω
  | .err x ω => .err x ω
  | .bad => .bad
theorem Rs.bind_ok {α β : Type} (a : α) (ω : Om) (k : α → Om → Rs β) : Rs.bind (.ok a ω) k = k a ω := rfl
theorem Rs.bind_err {α β : Type} (x : Ex) (ω : Om) (k : α → Om → Rs β) : Rs.bind (.err x ω) k = .err x ω := rfl
theorem Rs.bind_bad {α β : Type} (k : α → Om → Rs β) : Rs.bind .bad k = .bad := rfl
/-- a slot: empty (or forgotten), a datum, a list of the def's own -/
inductive Sl where
  | emp
  | val (d : D)
  | own (ds : List D)
abbrev Sls := List Sl
abbrev EvE := Sls → Om → Rs D
abbrev EvA := Sls → Om → Rs (List D)
abbrev EvT := Sls → Om → Rs Bool
inductive Fl where
  | nx (δ : Sls)
  | rt (d : D)
  | bk (δ : Sls)
  | ct (δ : Sls)
abbrev EvS := Sls → Om → Rs Fl

/-! ### states -/
/-- what is told of the source of draws (and of tables of code objects) is told still when what else may change changes -/
def GM (Z : Addr → Prop) (G : Om → Hp → Prop) : Prop := ∀ ω H H', (∀ b o, H b = some o → (Z b ∨ keepO (fun _ => True) b o ∨ ∃ ps, o = .tbl ps) → H' b = some o) → G ω H → G ω H'
def NA (N : Addr → Prop) (al : Nat → Option Addr) : Addr → Prop := fun b => N b ∨ ∃ i, al i = some b
inductive SlotR (K : PySem.W.Frag) (sa : Addr) (N : Addr → Prop) (H : Hp) : Option Addr → Option V → Sl → Prop
  | emp {o : Option V} : SlotR K sa N H none o .emp
  | val {v : V} {d : D} : Rep K sa N H v d → SlotR K sa N H none (some v) (.val d)
  | own {a : Addr} {xs : List V} {ds : List D} : H a = some (.lst xs) → xs.length ≤ sizeLine → Reps K sa N H xs ds → SlotR K sa N H (some a) (some (.ref a)) (.own ds)
structure Fm where
  sa : Addr
  Z : Addr → Prop
  N : Addr → Prop
  G : Om → Hp → Prop
  H0 : Hp
/-- what the places of the draws and of the tables are to be like -/
abbrev PP : Type := Addr → (Addr → Prop) → (Om → Hp → Prop) → Prop
structure Wt where
  w : XK
  P : PP
structure DSt (K : PySem.W.Frag) (P : PP) (M : Fm) (al : Nat → Option Addr) (σ : L2.St) (H : Hp) (δ : Sls) (ω : Om) : Prop where
  pp : P M.sa M.Z M.G
  zn : ∀ b, M.Z b → M.N b
  gm : GM M.Z M.G
  g : M.G ω H
  nt : ∀ b, M.N b → Tr H b
  fr : Fr M.Z M.H0 H
  len : σ.length = δ.length
  sl : ∀ i, i < δ.length → SlotR K M.sa (NA M.N al) H (al i) ((σ[i]?).getD none) ((δ[i]?).getD .emp)
  inj : ∀ i j a, al i = some a → al j = some a → i = j
  fresh : ∀ i a, al i = some a → ¬ Tr M.H0 a ∧ ¬ M.N a ∧ i < δ.length
section
variable {K : PySem.W.Frag} {P : PP} {M : Fm} {H H' : Hp} {al : Nat → Option Addr} {σ : L2.St} {δ : Sls} {ω ω' : Om}
theorem SlotR.mono {sa : Addr} {Z N' : Addr → Prop} {o : Option Addr} {v : Option V} {x : Sl} (f : Fr Z H H') (ho : ∀ a, o = some a → ¬ Z a) (hn : ∀ b, Z b → N' b) (r : SlotR K sa N' H o v x) : SlotR K sa N' H' o v x := by
  cases r with
  | emp => exact .emp
  | val r => exact .val (r.mono f hn)
  | own h l r => exact .own (f.keep _ _ h (ho _ rfl)) l (r.mono f hn)
theorem DSt.own_there (S : DSt K P M al σ H δ ω) {i : Nat} {a : Addr} (h : al i = some a) : ∃ xs, H a = some (.lst xs) := by
  have hl := (S.fresh i a h).2.2
  have q := S.sl i hl
  rw [h] at q
  generalize (σ[i]?).getD none = o at q
  generalize (δ[i]?).getD .emp = x at q
  cases q with
  | own h _ _ => exact ⟨_, h⟩
theorem DSt.naT (S : DSt K P M al σ H δ ω) : ∀ b, NA M.N al b → Tr H b := fun b hb => by
  rcases hb with hb | ⟨i, hb⟩
  · exact S.nt b hb
  · obtain ⟨xs, q⟩ := S.own_there hb
    exact ⟨_, q, trivial⟩
theorem DSt.zna (S : DSt K P M al σ H δ ω) : ∀ b, M.Z b → NA M.N al b := fun b z => .inl (S.zn b z)
/-- behind a step that changes but Z's objects -/
theorem DSt.go (S : DSt K P M al σ H δ ω) (f : Fr M.Z H H') (g : M.G ω' H') : DSt K P M al σ H' δ ω' where
  pp := S.pp
  zn := S.zn
  gm := S.gm
  g := g
  nt := fun b hb => f.there b (S.nt b hb)
  fr := S.fr.trans f
  len := S.len
  sl := fun i hi => (S.sl i hi).mono f (fun a e z => (S.fresh i a e).2.1 (S.zn a z)) S.zna
  inj := S.inj
  fresh := S.fresh
theorem GM.same {Z : Addr → Prop} {G : Om → Hp → Prop} (gm : GM Z G) (s : Same H H') (g : G ω H) : G ω H' := gm ω H H' (fun b o e _ => s b o e) g
theorem DSt.same (S : DSt K P M al σ H δ ω) (s : Same H H') : DSt K P M al σ H' δ ω := S.go (.same s) (S.gm.same s S.g)
/-- the slots that hold a datum -/
theorem DSt.val (S : DSt K P M al σ H δ ω) {i : Nat} {d : D} (h : δ[i]? = some (.val d)) : ∃ v, σ[i]? = some (some v) ∧ Rep K M.sa (NA M.N al) H v d := by
  have hi : i < δ.length := (List.getElem?_eq_some_iff.mp h).1
  have q := S.sl i hi
  rw [h] at q
  have hs : i < σ.length := by rw [S.len]; exact hi
  rw [List.getElem?_eq_getElem hs] at q
  rw [List.getElem?_eq_getElem hs]
  simp only [Option.getD_some] at q
  generalize al i = o at q
  cases e : σ[i] with
  | none => rw [e] at q; cases q
  | some v =>
    rw [e] at q
    cases q with
    | val r => exact ⟨v, rfl, r⟩
theorem DSt.ownAt (S : DSt K P M al σ H δ ω) {i : Nat} {ds : List D} (h : δ[i]? = some (.own ds)) : ∃ a xs, al i = some a ∧ σ[i]? = some (some (.ref a)) ∧ H a = some (.lst xs) ∧ xs.length ≤ sizeLine ∧ Reps K M.sa (NA M.N al) H xs ds := by
  have hi : i < δ.length := (List.getElem?_eq_some_iff.mp h).1
  have q := S.sl i hi
  rw [h] at q
  have hs : i < σ.length := by rw [S.len]; exact hi
  rw [List.getElem?_eq_getElem hs] at q
  rw [List.getElem?_eq_getElem hs]
  simp only [Option.getD_some] at q
  generalize σ[i] = w at q ⊢
  generalize al i = z at q ⊢
  cases q with
  | own h1 h2 h3 => exact ⟨_, _, rfl, rfl, h1, h2, h3⟩
/-- a slot is stored -/
theorem DSt.set (S : DSt K P M al σ H δ ω) {i : Nat} {v : V} {d : D} (r : Rep K M.sa (NA M.N al) H v d) :
    DSt K P M (fun j => if j = i then none else al j) (σ.set i (some v)) H (δ.set i (.val d)) ω where
  pp := S.pp
  zn := S.zn
  gm := S.gm
  g := S.g
  nt := S.nt
  fr := S.fr
  len := by rw [List.length_set, List.length_set]; exact S.len
  sl := fun j hj => by
    have hle : ∀ b, NA M.N (fun j => if j = i then none else al j) b → Tr H b → NA M.N al b := fun b hb _ => by
      rcases hb with hb | ⟨k, hb⟩
      · exact .inl hb
      · by_cases e : k = i
        · simp only [e, if_pos] at hb; cases hb
        · simp only [if_neg e] at hb; exact .inr ⟨k, hb⟩
    rw [List.length_set] at hj
    by_cases e : j = i
    · subst e
      have hs : j < σ.length := by rw [S.len]; exact hj
      rw [List.getElem?_set_self hs, List.getElem?_set_self hj, if_pos rfl]
      exact .val (r.less hle)
    · rw [List.getElem?_set_ne (Ne.symm e), List.getElem?_set_ne (Ne.symm e), if_neg e]
      have q := S.sl j hj
      generalize (σ[j]?).getD none = o at q ⊢
      generalize (δ[j]?).getD .emp = x at q ⊢
      generalize al j = w at q ⊢
      cases q with
      | emp => exact .emp
      | val r => exact .val (r.less hle)
      | own h l r => exact .own h l (r.less hle)
  inj := fun j k a h1 h2 => by
    by_cases e1 : j = i
    · simp only [e1, if_pos] at h1; cases h1
    · by_cases e2 : k = i
      · simp only [e2, if_pos] at h2; cases h2
      · simp only [if_neg e1] at h1
        simp only [if_neg e2] at h2
        exact S.inj j k a h1 h2
  fresh := fun j a h => by
    by_cases e1 : j = i
    · simp only [e1, if_pos] at h; cases h
    · simp only [if_neg e1] at h
      rw [List.length_set]
      exact S.fresh j a h
end
def AlExt (H : Hp) (al al' : Nat → Option Addr) : Prop := ∀ i a, al' i = some a → (∃ j, al j = some a) ∨ ¬ Tr H a
theorem AlExt.refl {H : Hp} {al : Nat → Option Addr} : AlExt H al al := fun i _ h => .inl ⟨i, h⟩
theorem AlExt.trans {Z : Addr → Prop} {H H1 : Hp} {al al1 al2 : Nat → Option Addr} (x : AlExt H al al1) (f : Fr Z H H1) (y : AlExt H1 al1 al2) : AlExt H al al2 := fun i a h => by
  rcases y i a h with ⟨j, q⟩ | q
  · exact x j a q
  · exact .inr fun t => q (f.there a t)
theorem AlExt.drop {H : Hp} {al : Nat → Option Addr} {i : Nat} : AlExt H al (fun j => if j = i then none else al j) := fun j a h => by
  by_cases e : j = i
  · simp only [e, if_pos] at h; cases h
  · simp only [if_neg e] at h; exact .inl ⟨j, h⟩

/-! ### the judgements -/
def ExR (K : PySem.W.Frag) (sa : Addr) (N : Addr → Prop) (H : Hp) (x : Ex) (cls : Value) (dd : Option Addr) : Prop :=
  cls = .ref (He.ga K x.1) ∧ ((x.2 = [] ∧ dd = none) ∨ ∃ (f : Str) (d : D) (a : Addr) (v : V), x.2 = [(f, d)] ∧ dd = some a ∧ H a = some (.xd [(f, v)]) ∧ Rep K sa N H v d)
theorem ExR.less {K : PySem.W.Frag} {sa : Addr} {N N' : Addr → Prop} {H : Hp} {x : Ex} {cls : Value} {dd : Option Addr} (hn : ∀ b, N' b → Tr H b → N b) (h : ExR K sa N H x cls dd) : ExR K sa N' H x cls dd := by
  obtain ⟨h1, h2 | ⟨f, d, a, v, q1, q2, q3, q4⟩⟩ := h
  · exact ⟨h1, .inl h2⟩
  · exact ⟨h1, .inr ⟨f, d, a, v, q1, q2, q3, q4.less hn⟩⟩
def PErr (K : PySem.W.Frag) (M : Fm) (N : Addr → Prop) (H : Hp) (W : XK) (x : Ex) (ω : Om) : Prop := ∀ cls dd H', Fr M.Z H H' → M.G ω H' → ExR K M.sa N H' x cls dd → W cls dd H'
def PostR {α β : Type} (K : PySem.W.Frag) (M : Fm) (al : Nat → Option Addr) (σ : L2.St) (H : Hp) (δ : Sls) (rel : Hp → β → α → Prop) (r : Rs α) (Q : β → Hp → Prop) (W : Wt) : Prop := match r with
  | .ok d ω => ∀ v H', DSt K W.P M al σ H' δ ω → Fr M.Z H H' → rel H' v d → Q v H'
  | .err x ω => PErr K M (NA M.N al) H W.w x ω
  | .bad => False
abbrev relE (K : PySem.W.Frag) (M : Fm) (al : Nat → Option Addr) : Hp → V → D → Prop := fun H v d => Rep K M.sa (NA M.N al) H v d
abbrev relA (K : PySem.W.Frag) (M : Fm) (al : Nat → Option Addr) : Hp → List V → List D → Prop := fun H v d => Reps K M.sa (NA M.N al) H v d
abbrev relT : Hp → Bool → Bool → Prop := fun _ b c => b = c
structure PEd (X : Cx) (W : Wt) (e : Expr) (f : EvE) : Prop where
  ex : ∃ t, PE X e t ∧ ∀ M al σ H δ ω Q, DSt X.K W.P M al σ H δ ω → PostR X.K M al σ H δ (relE X.K M al) (f δ ω) Q W → t σ H Q
structure PTd (X : Cx) (W : Wt) (e : Expr) (f : EvT) : Prop where
  ex : ∃ t, PT X e t ∧ ∀ M al σ H δ ω Q, DSt X.K W.P M al σ H δ ω → PostR X.K M al σ H δ relT (f δ ω) Q W → t σ H Q
structure PWd (X : Cx) (W : Wt) (e : Expr) (f : EvT) : Prop where
  ex : ∃ t, PW X e t ∧ ∀ M al σ H δ ω Q, DSt X.K W.P M al σ H δ ω → PostR X.K M al σ H δ relT (f δ ω) Q W → t σ H Q
structure PAd (X : Cx) (W : Wt) (es : List Expr) (f : EvA) : Prop where
  ex : ∃ t, PA X es t ∧ ∀ M al σ H δ ω Q, DSt X.K W.P M al σ H δ ω → PostR X.K M al σ H δ (relA X.K M al) (f δ ω) Q W → t σ H Q
/-- what stays behind statements: what own lists hold may change, too -/
abbrev FrS (M : Fm) (al : Nat → Option Addr) (H H' : Hp) : Prop := Fr (fun b => M.Z b ∨ ∃ i, al i = some b) H H'
theorem keepO.imp {Z Z' : Addr → Prop} (h : ∀ b, Z' b → Z b) {b : Addr} : ∀ {o : HO}, keepO Z b o → keepO Z' b o
  | .lst _, k => fun z => k (h b z)
  | .dK _, k => fun z => k (h b z)
  | .dT _, k => fun z => k (h b z)
  | .set _ _, k => fun z => k (h b z)
  | .ins _ _ _, k => fun z => k (h b z)
  | .tbl _, k => k
  | .tup _, _ => trivial
  | .own _, _ => trivial
  | .xd _, _ => trivial
  | .met _ _, _ => trivial
  | .rng _ _, _ => trivial
  | .frz _ _, _ => trivial
  | .ext _, _ => trivial
theorem Fr.wide {Z Z' : Addr → Prop} {H H' : Hp} (h : ∀ b, Z' b → Z b) (f : Fr Z' H H') : Fr Z H H' := ⟨fun b o e k => f.keep b o e (k.imp h), f.there⟩
theorem Fr.s {M : Fm} {al : Nat → Option Addr} {H H' : Hp} (f : Fr M.Z H H') : FrS M al H H' := f.wide fun _ z => .inl z
theorem FrS.trans {M : Fm} {al al1 : Nat → Option Addr} {H H1 H2 : Hp} (f : FrS M al H H1) (x : AlExt H al al1) (f2 : FrS M al1 H1 H2) : FrS M al H H2 := by
  refine ⟨fun b o e k => ?_, fun b h => f2.there b (f.there b h)⟩
  have e1 := f.keep b o e k
  by_cases hb : ∃ i, al1 i = some b
  · obtain ⟨i, hi⟩ := hb
    rcases x i b hi with ⟨j, hj⟩ | hj
    · have nk : ∀ {P : Prop}, keepO (fun b => M.Z b ∨ ∃ i, al i = some b) b o → (¬ (M.Z b ∨ ∃ i, al i = some b) → P) → True := fun _ _ => trivial
      exact f2.keep b o e1 (by
        cases o <;> first | trivial | exact absurd (.inr ⟨j, hj⟩) k | exact k)
    · exact absurd ⟨o, e, .of_keep k⟩ hj
  · refine f2.keep b o e1 ?_
    cases o <;> first | trivial | exact k | exact fun z => z.elim (fun z => k (.inl z)) hb
theorem FrS.trans0 {M : Fm} {al : Nat → Option Addr} {H H1 H2 : Hp} (f : FrS M al H H1) (f2 : FrS M al H1 H2) : FrS M al H H2 := Fr.trans f f2
def PostS (K : PySem.W.Frag) (M : Fm) (al : Nat → Option Addr) (H : Hp) (r : Rs Fl) (D : Ends) (W : Wt) : Prop := match r with
  | .ok (.nx δ) ω => ∀ al' σ' H', DSt K W.P M al' σ' H' δ ω → FrS M al H H' → AlExt H al al' → D.nx σ' H'
  | .ok (.bk δ) ω => ∀ al' σ' H', DSt K W.P M al' σ' H' δ ω → FrS M al H H' → AlExt H al al' → D.bk σ' H'
  | .ok (.ct δ) ω => ∀ al' σ' H', DSt K W.P M al' σ' H' δ ω → FrS M al H H' → AlExt H al al' → D.ct σ' H'
  | .ok (.rt d) ω => ∀ v H', Fr M.Z M.H0 H' → M.G ω H' → Rep K M.sa M.N H' v d → D.rt v H'
  | .err x ω => PErr K M M.N M.H0 W.w x ω
  | .bad => False
structure PSd (X : Cx) (W : Wt) (st : Stmt) (f : EvS) : Prop where
  ex : ∃ t, PS X st t ∧ ∀ M al σ H δ ω D, DSt X.K W.P M al σ H δ ω → PostS X.K M al H (f δ ω) D W → t D σ H
structure PSsd (X : Cx) (W : Wt) (st : List Stmt) (f : EvS) : Prop where
  ex : ∃ t, PSs X st t ∧ ∀ M al σ H δ ω D, DSt X.K W.P M al σ H δ ω → PostS X.K M al H (f δ ω) D W → t D σ H
/-- a promise: the function fn of data -/
def spD (K : PySem.W.Frag) (P : PP) (n : Nat) (fn : List D → Om → Rs D) : Sp := fun vs H Q E => vs.length = n ∧ ∃ (M : Fm) (ds : List D) (ω : Om), M.H0 = H ∧ P M.sa M.Z M.G ∧ (∀ b, M.Z b → M.N b) ∧ GM M.Z M.G ∧ M.G ω H ∧ (∀ b, M.N b → Tr H b) ∧ Reps K M.sa M.N H vs ds ∧
  match fn ds ω with
  | .ok d ω' => ∀ v H', Fr M.Z H H' → M.G ω' H' → Rep K M.sa M.N H' v d → Q v H'
  | .err x ω' => PErr K M M.N M.H0 E x ω'
  | .bad => False
/-- a body, run -/
def runB (n : Nat) (g : EvS) : List D → Om → Rs D := fun ds ω => (g (ds.map .val ++ List.replicate (n - ds.length) .emp) ω).bind fun fl ω' => match fl with
  | .nx _ => .ok .non ω'
  | .rt d => .ok d ω'
  | _ => .bad
end DL

namespace DL
open PySem PySem.Spec PyProof.Rows L2
section
variable {X : Cx} {W : Wt} {K : PySem.W.Frag} {M : Fm} {al : Nat → Option Addr} {σ : L2.St} {H : Hp} {δ : Sls}
/-! ### one thing behind another -/
theorem post_bind {α β γ : Type} {rel : Hp → γ → α → Prop} {r : Rs α} {k : α → Om → Rs β} {β' : Type} {rel2 : Hp → β' → β → Prop} {Q : β' → Hp → Prop}
    (h : PostR K M al σ H δ rel2 (r.bind k) Q W) : PostR K M al σ H δ rel r (fun v H1 => ∃ a ω, r = .ok a ω ∧ DSt K W.P M al σ H1 δ ω ∧ Fr M.Z H H1 ∧ rel H1 v a ∧ PostR K M al σ H δ rel2 (k a ω) Q W) W := by
  cases r with
  | ok a ω => exact fun v H' S f q => ⟨a, ω, rfl, S, f, q, h⟩
  | err x ω => exact h
  | bad => exact h
theorem post_from {α β : Type} {rel : Hp → β → α → Prop} {r : Rs α} {Q : β → Hp → Prop} {H1 : Hp} (f : Fr M.Z H H1) (h : PostR K M al σ H δ rel r Q W) : PostR K M al σ H1 δ rel r Q W := by
  cases r with
  | ok a ω => exact fun v H' S f' q => h v H' S (f.trans f') q
  | err x ω => exact fun cls dd H' f' => h cls dd H' (f.trans f')
  | bad => exact h
theorem post_mono {α β : Type} {rel : Hp → β → α → Prop} {r : Rs α} {Q Q' : β → Hp → Prop} (hq : ∀ v H', Q v H' → Q' v H') (h : PostR K M al σ H δ rel r Q W) : PostR K M al σ H δ rel r Q' W := by
  cases r with
  | ok a ω => exact fun v H' S f' q => hq _ _ (h v H' S f' q)
  | err x ω => exact h
  | bad => exact h
/-! ### names and constants -/
def eVar (i : Nat) : EvE := fun δ ω => match δ[i]? with
  | some (.val d) => .ok d ω
  | _ => .bad
def eC (d : D) : EvE := fun _ ω => .ok d ω
theorem pd_var (i : Nat) {x : Str} {pos : Pos} (hN : X.N[i]? = some x := by rfl) (hv : Vis X.env.scope x := by first | exact Or.inl rfl | exact Or.inr (Or.inl rfl) | exact Or.inr (Or.inr rfl)) (hd : (x == ("__debug__" : Str)) = false := by decide)
    (hcd : (x == ("__classdict__" : Str)) = false := by decide) : PEd X W (.Name x pos) (eVar i) := by
  refine ⟨_, pe_var hN hv hd hcd, fun M al σ H δ ω Q S h => ?_⟩
  unfold eVar at h
  split at h
  · rename_i d e
    obtain ⟨v, e1, r⟩ := S.val e
    exact ⟨v, e1, h v H S (Fr.refl H) r⟩
  · exact h.elim
theorem pd_const {e : Expr} {v : V} {d : D} (h : PE X e (tC v)) (r : ∀ sa N H, Rep X.K sa N H v d) : PEd X W e (eC d) :=
  ⟨_, h, fun M al σ H δ ω Q S q => q v H S (Fr.refl H) (r _ _ _)⟩
theorem pd_int {i : Int} {j pos} : PEd X W (.Constant (.int i) j pos) (eC (.int i)) := pd_const pe_int fun _ _ _ => .int i
theorem pd_bl {b j pos} : PEd X W (.Constant (.bool b) j pos) (eC (.bl b)) := pd_const pe_bl fun _ _ _ => .bl b
theorem pd_non {j pos} : PEd X W (.Constant .none j pos) (eC .non) := pd_const pe_non fun _ _ _ => .non
theorem pd_str {x : Str} {j pos} : PEd X W (.Constant (.str x) j pos) (eC (.str x)) := pd_const pe_str fun _ _ _ => .str x
/-- a constant of the module -/
theorem pd_glob {x : Str} {v : V} {d : D} {pos : Pos} (hm : ∃ u, X.mg x = some u ∧ RelV v u) (r : ∀ sa N H, Rep X.K sa N H v d) (hg : Gl X x := by rfl) (hd : (x == ("__debug__" : Str)) = false := by decide) : PEd X W (.Name x pos) (eC d) := by
  obtain ⟨u, h1, h2⟩ := hm
  exact pd_const (pe_glob hg h1 h2 hd) r
/-! ### operators -/
structure Op2 (K : PySem.W.Frag) (r : R2) (g : D → D → Option D) : Prop where
  ok : ∀ sa N H x y a b d Q, Rep K sa N H x a → Rep K sa N H y b → g a b = some d → (∀ b, N b → Tr H b) → (∀ v H', Same H H' → Rep K sa N H' v d → Q v H') → r x y H Q
structure Op1 (K : PySem.W.Frag) (r : V → Hp → VK → Prop) (g : D → Option D) : Prop where
  ok : ∀ sa N H x a d Q, Rep K sa N H x a → g a = some d → (∀ b, N b → Tr H b) → (∀ v H', Same H H' → Rep K sa N H' v d → Q v H') → r x H Q
structure OpN (K : PySem.W.Frag) (r : List V → Hp → VK → Prop) (g : List D → Option D) : Prop where
  ok : ∀ sa N H xs as d Q, Reps K sa N H xs as → g as = some d → (∀ b, N b → Tr H b) → (∀ v H', Same H H' → Rep K sa N H' v d → Q v H') → r xs H Q
def rs1 (o : Option D) (ω : Om) : Rs D := match o with
  | some d => .ok d ω
  | none => .bad
def eOp2 (g : D → D → Option D) (fa fb : EvE) : EvE := fun δ ω => (fa δ ω).bind fun a ω1 => (fb δ ω1).bind fun b ω2 => rs1 (g a b) ω2
def eOp1 (g : D → Option D) (fa : EvE) : EvE := fun δ ω => (fa δ ω).bind fun a ω1 => rs1 (g a) ω1
def eOpN (g : List D → Option D) (fa : EvA) : EvE := fun δ ω => (fa δ ω).bind fun a ω1 => rs1 (g a) ω1
/-- two values, one behind the other, then r -/
theorem tOp_ok {a b : Expr} {r : R2} {g : D → D → Option D} {fa fb : EvE} {ta tb : TE} (ho : Op2 X.K r g)
    (ha : ∀ M al σ H δ ω Q, DSt X.K W.P M al σ H δ ω → PostR X.K M al σ H δ (relE X.K M al) (fa δ ω) Q W → ta σ H Q)
    (hb : ∀ M al σ H δ ω Q, DSt X.K W.P M al σ H δ ω → PostR X.K M al σ H δ (relE X.K M al) (fb δ ω) Q W → tb σ H Q) :
    ∀ M al σ H δ ω Q, DSt X.K W.P M al σ H δ ω → PostR X.K M al σ H δ (relE X.K M al) (eOp2 g fa fb δ ω) Q W → tOp r ta tb σ H Q := fun M al σ H δ ω Q S h => by
  refine ha M al σ H δ ω _ S (post_mono (fun x H1 h1 => ?_) (post_bind (rel := relE X.K M al) h))
  obtain ⟨d1, ω1, _, S1, f1, r1, h1⟩ := h1
  refine hb M al σ H1 δ ω1 _ S1 (post_mono (fun y H2 h2 => ?_) (post_bind (rel := relE X.K M al) (post_from f1 h1)))
  obtain ⟨d2, ω2, _, S2, f2, r2, h2⟩ := h2
  unfold rs1 at h2
  split at h2
  · rename_i d e
    exact ho.ok M.sa (NA M.N al) H2 x y d1 d2 d Q (r1.mono f2 S1.zna) r2 e S2.naT fun v H' s q => h2 v H' (S2.same s) (f2.trans (.same s)) q
  · exact h2.elim
variable {a b e c : Expr} {es : List Expr} {fa fb fc : EvE} {ft fu : EvT} {fs : EvA} {pos : Pos}
theorem pd_op {op : Operator} {r : R2} {g : D → D → Option D} (ho : OpR X (binaryOp op) r) (hg : Op2 X.K r g) (ha : PEd X W a fa) (hb : PEd X W b fb) : PEd X W (.BinOp a op b pos) (eOp2 g fa fb) := by
  obtain ⟨ta, p1, q1⟩ := ha.ex
  obtain ⟨tb, p2, q2⟩ := hb.ex
  exact ⟨_, pe_op ho p1 p2, tOp_ok (a := a) (b := b) hg q1 q2⟩
theorem pd_cmp {op : CmpOp} {r : R2} {g : D → D → Option D} (ho : OpR X (compareOp op) r) (hg : Op2 X.K r g) (hm : behindInMarks op b = false) (ha : PEd X W a fa) (hb : PEd X W b fb) : PEd X W (.Compare a [op] [b] pos) (eOp2 g fa fb) := by
  obtain ⟨ta, p1, q1⟩ := ha.ex
  obtain ⟨tb, p2, q2⟩ := hb.ex
  exact ⟨_, pe_cmpR ho p1 p2 hm, tOp_ok (a := a) (b := b) hg q1 q2⟩
theorem pd_ix {r : R2} {g : D → D → Option D} (ho : IxR X r) (hg : Op2 X.K r g) (ha : PEd X W a fa) (hb : PEd X W b fb) (hs : PlainIx b := by exact fun _ _ => rfl) : PEd X W (.Subscript a b pos) (eOp2 g fa fb) := by
  obtain ⟨ta, p1, q1⟩ := ha.ex
  obtain ⟨tb, p2, q2⟩ := hb.ex
  exact ⟨_, pe_ix ho p1 p2 hs, tOp_ok (a := a) (b := b) hg q1 q2⟩
theorem tUn_ok {r : V → Hp → VK → Prop} {g : D → Option D} {ta : TE} (ho : Op1 X.K r g)
    (ha : ∀ M al σ H δ ω Q, DSt X.K W.P M al σ H δ ω → PostR X.K M al σ H δ (relE X.K M al) (fa δ ω) Q W → ta σ H Q) :
    ∀ M al σ H δ ω Q, DSt X.K W.P M al σ H δ ω → PostR X.K M al σ H δ (relE X.K M al) (eOp1 g fa δ ω) Q W → tUn r ta σ H Q := fun M al σ H δ ω Q S h => by
  refine ha M al σ H δ ω _ S (post_mono (fun x H1 h1 => ?_) (post_bind (rel := relE X.K M al) h))
  obtain ⟨d1, ω1, _, S1, f1, r1, h1⟩ := h1
  unfold rs1 at h1
  split at h1
  · rename_i d e
    exact ho.ok M.sa (NA M.N al) H1 x d1 d Q r1 e S1.naT fun v H' s q => h1 v H' (S1.same s) (f1.trans (.same s)) q
  · exact h1.elim
theorem pd_un {op : UnaryOp} {r : V → Hp → VK → Prop} {g : D → Option D} (ho : UnR X (unaryOp op) r) (hg : Op1 X.K r g) (ha : PEd X W a fa) : PEd X W (.UnaryOp op a pos) (eOp1 g fa) := by
  obtain ⟨ta, p1, q1⟩ := ha.ex
  exact ⟨_, pe_un ho p1, tUn_ok hg q1⟩
/-! ### arguments -/
def aNil : EvA := fun _ ω => .ok [] ω
def aCons (fa : EvE) (fs : EvA) : EvA := fun δ ω => (fa δ ω).bind fun d ω1 => (fs δ ω1).bind fun ds ω2 => .ok (d :: ds) ω2
theorem ad_nil : PAd X W [] aNil := ⟨_, pa_nil, fun M al σ H δ ω Q S h => h [] H S (Fr.refl H) .nil⟩
theorem ad_cons (ha : PEd X W e fa) (hr : PAd X W es fs) (hs : starEach (e :: es) X.env = (false, eval e X.env) :: starEach es X.env := by rfl) : PAd X W (e :: es) (aCons fa fs) := by
  obtain ⟨ta, p1, q1⟩ := ha.ex
  obtain ⟨tb, p2, q2⟩ := hr.ex
  refine ⟨_, pa_cons p1 p2 hs, fun M al σ H δ ω Q S h => ?_⟩
  refine q1 M al σ H δ ω _ S (post_mono (fun x H1 h1 => ?_) (post_bind (rel := relE X.K M al) h))
  obtain ⟨d1, ω1, _, S1, f1, r1, h1⟩ := h1
  refine q2 M al σ H1 δ ω1 _ S1 (post_mono (fun y H2 h2 => ?_) (post_bind (rel := relA X.K M al) (post_from f1 h1)))
  obtain ⟨d2, ω2, _, S2, f2, r2, h2⟩ := h2
  exact h2 (x :: y) H2 S2 f2 (.cons (r1.mono f2 S1.zna) r2)
theorem tN_ok {r : List V → Hp → VK → Prop} {g : List D → Option D} {t : TA} (ho : OpN X.K r g)
    (ha : ∀ M al σ H δ ω Q, DSt X.K W.P M al σ H δ ω → PostR X.K M al σ H δ (relA X.K M al) (fs δ ω) Q W → t σ H Q) :
    ∀ M al σ H δ ω Q, DSt X.K W.P M al σ H δ ω → PostR X.K M al σ H δ (relE X.K M al) (eOpN g fs δ ω) Q W → t σ H (fun xs H1 => r xs H1 Q) := fun M al σ H δ ω Q S h => by
  refine ha M al σ H δ ω _ S (post_mono (fun x H1 h1 => ?_) (post_bind (rel := relA X.K M al) h))
  obtain ⟨d1, ω1, _, S1, f1, r1, h1⟩ := h1
  unfold rs1 at h1
  split at h1
  · rename_i d e
    exact ho.ok M.sa (NA M.N al) H1 x d1 d Q r1 e S1.naT fun v H' s q => h1 v H' (S1.same s) (f1.trans (.same s)) q
  · exact h1.elim
/-- a built-in called by its name -/
theorem pd_callB {id : String} {x : Str} {p : Pos} {r : List V → Hp → VK → Prop} {g : List D → Option D} (hc : CallR X (.builtin id) r) (ho : OpN X.K r g) (hm : X.mg x = none) (hv : bootBuiltins x = some (.builtin id)) (ha : PAd X W (e :: es) fs) (hg : Gl X x := by rfl) (hn : x ≠ "__name__" := by decide) (hdb : (x == ("__debug__" : Str)) = false := by decide)
    (he : starEach (e :: es) X.env = (false, eval e X.env) :: starEach es X.env := by rfl) (hpl : (backTo pos (starEach es X.env)).any (·.1) = false := by rfl) : PEd X W (.Call (.Name x p) (e :: es) [] pos) (eOpN g fs) := by
  obtain ⟨t, p1, q1⟩ := ha.ex
  exact ⟨_, pe_callB hc hg hm hv p1 hn hdb he hpl, tN_ok ho q1⟩
theorem pd_callTy {T : String} {x : Str} {p : Pos} {r : List V → Hp → VK → Prop} {g : List D → Option D} (hc : CallR X (.type T) r) (ho : OpN X.K r g) (hm : X.mg x = none) (hv : bootBuiltins x = some (.type T)) (ha : PAd X W (e :: es) fs) (hg : Gl X x := by rfl) (hn : x ≠ "__name__" := by decide) (hdb : (x == ("__debug__" : Str)) = false := by decide)
    (he : starEach (e :: es) X.env = (false, eval e X.env) :: starEach es X.env := by rfl) (hpl : (backTo pos (starEach es X.env)).any (·.1) = false := by rfl) : PEd X W (.Call (.Name x p) (e :: es) [] pos) (eOpN g fs) := by
  obtain ⟨t, p1, q1⟩ := ha.ex
  exact ⟨_, pe_callTy hc hg hm hv p1 hn hdb he hpl, tN_ok ho q1⟩
/-- methods of built-in types: the receiver is of the type -/
structure OpM (K : PySem.W.Frag) (T : String) (r : V → List V → Hp → VK → Prop) (g : D → List D → Option D) : Prop where
  ty : ∀ sa N H x a as d, Rep K sa N H x a → g a as = some d → tyV K T x H
  ok : ∀ sa N H x a xs as d Q, Rep K sa N H x a → Reps K sa N H xs as → g a as = some d → (∀ b, N b → Tr H b) → (∀ v H', Same H H' → Rep K sa N H' v d → Q v H') → r x xs H Q
def isStr : D → Bool
  | .str _ => true
  | _ => false
/-- a text's method -/
def eStrM (g : D → List D → Option D) (fo : EvE) (fs : EvA) : EvE := fun δ ω => (fo δ ω).bind fun x ω1 => if isStr x then (fs δ ω1).bind fun xs ω2 => rs1 (g x xs) ω2 else .bad
theorem pd_strM {o : Expr} {apos : Pos} {name : Str} {id : String} {r : V → List V → Hp → VK → Prop} {g : D → List D → Option D} (slot : Slot "str" name id) (hty : typeOf (.builtin id) = pure (.type "method_descriptor")) (hm : MtR X id r)
    (ho : ∀ sa N H x a xs as d Q, Rep X.K sa N H x a → Reps X.K sa N H xs as → g a as = some d → (∀ b, N b → Tr H b) → (∀ v H', Same H H' → Rep X.K sa N H' v d → Q v H') → r x xs H Q)
    (h1 : PEd X W o fa) (h2 : PAd X W (e :: es) fs) (hbase : attributeBase o name X.env (eval o X.env) = eval o X.env := by rfl)
    (hfew : ((backTo pos (starEach (e :: es) X.env)).all (fun x => !x.1) && (backToKw pos (keywordEach [] X.env)).all (fun x => x.1.isSome)
      && decide ((e :: es).length + ([] : List Keyword).length + (if ([] : List Keyword).isEmpty then 0 else 1) < 30)) = true := by rfl)
    (hline : (apos.endLine == pos.line) = true := by rfl) (hs : starEach (e :: es) X.env = (false, eval e X.env) :: starEach es X.env := by rfl) (hplain : (backTo pos (starEach es X.env)).any (·.1) = false := by rfl) : PEd X W (.Call (.Attribute o name apos) (e :: es) [] pos) (eStrM g fa fs) := by
  obtain ⟨to, p1, q1⟩ := h1.ex
  obtain ⟨t, p2, q2⟩ := h2.ex
  refine ⟨_, pe_bm PySem.F.plainAttrs_str slot hty hm p1 p2 hbase hfew hline hs hplain, fun M al σ H δ ω Q S h => ?_⟩
  refine q1 M al σ H δ ω _ S (post_mono (fun x H1 h1 => ?_) (post_bind (rel := relE X.K M al) h))
  obtain ⟨d1, ω1, _, S1, f1, r1, h1⟩ := h1
  split at h1
  · rename_i hs
    refine ⟨?_, ?_⟩
    · cases r1 <;> first | (cases hs; done) | exact ⟨_, rfl⟩ | trivial | rfl
    · refine q2 M al σ H1 δ ω1 _ S1 (post_mono (fun y H2 h2 => ?_) (post_bind (rel := relA X.K M al) (post_from f1 h1)))
      obtain ⟨d2, ω2, _, S2, f2, r2, h2⟩ := h2
      unfold rs1 at h2
      split at h2
      · rename_i d e
        exact ho M.sa (NA M.N al) H2 x d1 y d2 d Q (r1.mono f2 S1.zna) r2 e S2.naT fun v H' s q => h2 v H' (S2.same s) (f2.trans (.same s)) q
      · exact h2.elim
  · exact h1.elim
end
end DL

namespace DL
open PySem PySem.Spec PyProof.Rows L2
section
variable {X : Cx} {W : Wt} {K : PySem.W.Frag} {M : Fm} {al : Nat → Option Addr} {σ : L2.St} {H : Hp} {δ : Sls}
variable {a b e c : Expr} {es : List Expr} {fa fb fc : EvE} {ft fu : EvT} {fs : EvA} {pos : Pos}
/-! ### displays -/
def gTup (ds : List D) : Option D := if ds.length ≤ sizeLine then some (.tup ds) else none
def gLst (ds : List D) : Option D := if ds.length ≤ sizeLine then some (.lst ds) else none
theorem pd_tup {x1} (h : PAd X W es fs) : PEd X W (.Tuple es x1 pos) (eOpN gTup fs) := by
  obtain ⟨t, p1, q1⟩ := h.ex
  refine ⟨_, pe_tup p1, tN_ok (r := fun xs H Q => xs.length ≤ sizeLine ∧ ∀ p, H p = none → Q (.ref p) (upd H p (.tup xs))) ⟨fun sa N H xs as d Q r hg nt k => ?_⟩ q1⟩
  unfold gTup at hg
  split at hg
  · rename_i hl
    cases hg
    rw [← r.len] at hl
    refine ⟨hl, fun p hp => k _ _ (same_upd hp) (.tup (SqT.of upd_same) hl (r.mono (Z := fun _ => False) (.same (same_upd hp)) fun _ z => z.elim))⟩
  · cases hg
theorem new_ok {sa : Addr} {N : Addr → Prop} {xs : List V} {as : List D} {p : Addr} (nt : ∀ b, N b → Tr H b) (hp : H p = none) (hl : xs.length ≤ sizeLine) (r : Reps K sa N H xs as) : Rep K sa N (upd H p (.lst xs)) (.ref p) (.lst as) :=
  .lst upd_same (fun z => Tr.not hp (nt p z)) hl (r.mono (Z := fun _ => False) (.same (same_upd hp)) fun _ z => z.elim)
theorem pd_lst (h : PAd X W es fs) : PEd X W (.List es pos) (eOpN gLst fs) := by
  obtain ⟨t, p1, q1⟩ := h.ex
  refine ⟨_, pe_lst p1, tN_ok (r := fun xs H Q => xs.length ≤ sizeLine ∧ ∀ p, H p = none → Q (.ref p) (upd H p (.lst xs))) ⟨fun sa N H xs as d Q r hg nt k => ?_⟩ q1⟩
  unfold gLst at hg
  split at hg
  · rename_i hl
    cases hg
    rw [← r.len] at hl
    exact ⟨hl, fun p hp => k _ _ (same_upd hp) (new_ok nt hp hl r)⟩
  · cases hg
/-! ### calls of the text's defs -/
def eCall (fn : List D → Om → Rs D) (fs : EvA) : EvE := fun δ ω => (fs δ ω).bind fn
theorem sp_ok {P' : PP} (hP : ∀ sa Z G, W.P sa Z G → P' sa Z G) {n : Nat} {fn : List D → Om → Rs D} {xs : List V} {as : List D} {ω : Om} {Q : VK} (S : DSt K W.P M al σ H δ ω) (r : Reps K M.sa (NA M.N al) H xs as) (hn : xs.length = n)
    (h : PostR K M al σ H δ (relE K M al) (fn as ω) Q W) : spD K P' n fn xs H Q W.w := by
  refine ⟨hn, ⟨M.sa, M.Z, NA M.N al, M.G, H⟩, as, ω, rfl, hP _ _ _ S.pp, S.zna, S.gm, S.g, S.naT, r, ?_⟩
  cases e : fn as ω with
  | ok d ω' =>
    rw [e] at h
    exact fun v H' f g r => h v H' (S.go f g) f r
  | err x ω' =>
    rw [e] at h
    exact h
  | bad =>
    rw [e] at h
    exact h
theorem aLen {n : Nat} {fs : EvA} (h : ∀ δ ω ds ω', fs δ ω = .ok ds ω' → ds.length = n) : ∀ δ ω ds ω', fs δ ω = .ok ds ω' → ds.length = n := h
def LenA (n : Nat) (fs : EvA) : Prop := ∀ δ ω ds ω', fs δ ω = .ok ds ω' → ds.length = n
theorem LenA.nil : LenA 0 aNil := fun δ ω ds ω' h => by
  cases h
  rfl
theorem LenA.cons {n : Nat} (h : LenA n fs) : LenA (n + 1) (aCons fa fs) := fun δ ω ds ω' q => by
  unfold aCons at q
  cases e : fa δ ω with
  | ok d ω1 =>
    rw [e, Rs.bind_ok] at q
    cases e2 : fs δ ω1 with
    | ok ds2 ω2 =>
      rw [e2, Rs.bind_ok] at q
      cases q
      exact congrArg (· + 1) (h _ _ _ _ e2)
    | err x ω2 => rw [e2, Rs.bind_err] at q; cases q
    | bad => rw [e2, Rs.bind_bad] at q; cases q
  | err x ω1 => rw [e, Rs.bind_err] at q; cases q
  | bad => rw [e, Rs.bind_bad] at q; cases q
theorem pd_call {P' : PP} {k n : Nat} {f : Addr} {fd : FuncData} {ps : List Str} {x : Str} {p : Pos} {fn : List D → Om → Rs D} (F : FnOk X.prog X.w X.K X.mg X.base (L2.CX X.prog X.w) k f fd ps (spD X.K P' n fn)) (hr : Room k X.A) (hm : X.mg x = some (.ref f)) (hk : PySem.W.keepIn X.K (.ref f) = true) (hb : Binds X.K fd ps [])
    (tk : Takes X (fun cls d _ H => W.w cls d H)) (hP : ∀ sa Z G, W.P sa Z G → P' sa Z G) (hl : LenA n fs) (ha : PAd X W (e :: es) fs) (hg : Gl X x := by rfl) (hdb : (x == ("__debug__" : Str)) = false := by decide) (he : starEach (e :: es) X.env = (false, eval e X.env) :: starEach es X.env := by rfl) (hpl : (backTo pos (starEach es X.env)).any (·.1) = false := by rfl) :
    PEd X W (.Call (.Name x p) (e :: es) [] pos) (eCall fn fs) := by
  obtain ⟨t, p1, q1⟩ := ha.ex
  refine ⟨_, pe_callS (E := fun _ => W.w) F hr hg hm hk hb (fun σ => passAt tk σ) p1 hdb he hpl, fun M al σ H δ ω Q S h => ?_⟩
  refine q1 M al σ H δ ω _ S (post_mono (fun x H1 h1 => ?_) (post_bind (rel := relA X.K M al) h))
  obtain ⟨d1, ω1, e1, S1, f1, r1, h1⟩ := h1
  exact sp_ok hP S1 r1 (r1.len.trans (hl _ _ _ _ e1)) (post_from f1 h1)
/-- .. without arguments -/
theorem pd_call0 {P' : PP} {k : Nat} {f : Addr} {fd : FuncData} {ps : List Str} {x : Str} {p : Pos} {fn : List D → Om → Rs D} (F : FnOk X.prog X.w X.K X.mg X.base (L2.CX X.prog X.w) k f fd ps (spD X.K P' 0 fn)) (hr : Room k X.A) (hm : X.mg x = some (.ref f)) (hk : PySem.W.keepIn X.K (.ref f) = true) (hb : Binds X.K fd ps [])
    (tk : Takes X (fun cls d _ H => W.w cls d H)) (hP : ∀ sa Z G, W.P sa Z G → P' sa Z G) (hg : Gl X x := by rfl) (hdb : (x == ("__debug__" : Str)) = false := by decide) :
    PEd X W (.Call (.Name x p) [] [] pos) (eCall fn aNil) := by
  refine ⟨_, pe_call0 (E := W.w) F hr hg hm hk hb .nil (passes_call tk fun _ _ _ _ h => h) hdb, fun M al σ H δ ω Q S h => ?_⟩
  exact sp_ok hP (xs := []) S .nil rfl h
/-! ### tests -/
def tB (fa : EvE) : EvT := fun δ ω => (fa δ ω).bind fun d ω1 => match d with
  | .bl b => .ok b ω1
  | _ => .bad
theorem td_val (h : PEd X W e fa) (he : ∀ whole, isTrue e X.env whole = (do let v ← whole; standAt e.pos; holding [v] (truthy v)) := by intro _; rfl) : PTd X W e (tB fa) := by
  obtain ⟨t, p1, q1⟩ := h.ex
  refine ⟨_, pt_val p1 he, fun M al σ H δ ω Q S h => ?_⟩
  refine q1 M al σ H δ ω _ S (post_mono (fun x H1 h1 => ?_) (post_bind (rel := relE X.K M al) h))
  obtain ⟨d1, ω1, e1, S1, f1, r1, h1⟩ := h1
  cases r1 <;> first | exact ⟨_, rfl, h1 _ _ S1 f1 rfl⟩ | exact h1.elim
theorem td_cmp {op : CmpOp} {r : R2} {g : D → D → Option D} (ho : OpR X (compareOp op) r) (hg : Op2 X.K r g) (hm : behindInMarks op b = false) (ha : PEd X W a fa) (hb : PEd X W b fb) : PTd X W (.Compare a [op] [b] pos) (tB (eOp2 g fa fb)) := by
  obtain ⟨ta, p1, q1⟩ := ha.ex
  obtain ⟨tb, p2, q2⟩ := hb.ex
  refine ⟨_, pt_cmpR ho p1 p2 hm, fun M al σ H δ ω Q S h => ?_⟩
  refine tOp_ok (a := a) (b := b) hg q1 q2 M al σ H δ ω _ S (post_mono (fun x H1 h1 => ?_) (post_bind (rel := relE X.K M al) h))
  obtain ⟨d1, ω1, e1, S1, f1, r1, h1⟩ := h1
  cases r1 <;> first | exact ⟨_, rfl, h1 _ _ S1 f1 rfl⟩ | exact h1.elim
def tNot (ft : EvT) : EvT := fun δ ω => (ft δ ω).bind fun b ω1 => .ok (!b) ω1
theorem td_not (h : PTd X W e ft) : PTd X W (.UnaryOp .Not e pos) (tNot ft) := by
  obtain ⟨t, p1, q1⟩ := h.ex
  refine ⟨_, pt_not p1, fun M al σ H δ ω Q S h => ?_⟩
  refine q1 M al σ H δ ω _ S (post_mono (fun x H1 h1 => ?_) (post_bind (rel := relT) h))
  obtain ⟨d1, ω1, e1, S1, f1, rfl, h1⟩ := h1
  exact h1 _ _ S1 f1 rfl
def tAnd (ft fu : EvT) : EvT := fun δ ω => (ft δ ω).bind fun b ω1 => if b = true then fu δ ω1 else .ok false ω1
def tOr (ft fu : EvT) : EvT := fun δ ω => (ft δ ω).bind fun b ω1 => if b = true then .ok true ω1 else fu δ ω1
theorem wd_and1 (h : PTd X W a ft) : PWd X W (.BoolOp .And [a] pos) ft := by
  obtain ⟨t, p1, q1⟩ := h.ex
  exact ⟨_, pw_and1 p1, q1⟩
theorem wd_or1 (h : PTd X W a ft) : PWd X W (.BoolOp .Or [a] pos) ft := by
  obtain ⟨t, p1, q1⟩ := h.ex
  exact ⟨_, pw_or1 p1, q1⟩
theorem wd_and {rest : List Expr} (h : PTd X W a ft) (h2 : PWd X W (.BoolOp .And (b :: rest) pos) fu) : PWd X W (.BoolOp .And (a :: b :: rest) pos) (tAnd ft fu) := by
  obtain ⟨t, p1, q1⟩ := h.ex
  obtain ⟨t2, p2, q2⟩ := h2.ex
  refine ⟨_, pw_and p1 p2, fun M al σ H δ ω Q S h => ?_⟩
  refine q1 M al σ H δ ω _ S (post_mono (fun x H1 h1 => ?_) (post_bind (rel := relT) h))
  obtain ⟨d1, ω1, e1, S1, f1, rfl, h1⟩ := h1
  split at h1
  · rename_i e
    rw [if_pos e]
    exact q2 M al σ H1 δ ω1 _ S1 (post_from f1 h1)
  · rename_i e
    rw [if_neg e]
    exact h1 _ _ S1 f1 rfl
theorem wd_or {rest : List Expr} (h : PTd X W a ft) (h2 : PWd X W (.BoolOp .Or (b :: rest) pos) fu) : PWd X W (.BoolOp .Or (a :: b :: rest) pos) (tOr ft fu) := by
  obtain ⟨t, p1, q1⟩ := h.ex
  obtain ⟨t2, p2, q2⟩ := h2.ex
  refine ⟨_, pw_or p1 p2, fun M al σ H δ ω Q S h => ?_⟩
  refine q1 M al σ H δ ω _ S (post_mono (fun x H1 h1 => ?_) (post_bind (rel := relT) h))
  obtain ⟨d1, ω1, e1, S1, f1, rfl, h1⟩ := h1
  split at h1
  · rename_i e
    rw [if_pos e]
    exact h1 _ _ S1 f1 rfl
  · rename_i e
    rw [if_neg e]
    exact q2 M al σ H1 δ ω1 _ S1 (post_from f1 h1)
theorem td_w (h : PWd X W e ft) : PTd X W e ft := by
  obtain ⟨t, p1, q1⟩ := h.ex
  exact ⟨_, p1.pt, q1⟩
/-- and, or, not as values (all but the last are truth values) -/
def eAnd (fa fb : EvE) : EvE := fun δ ω => (tB fa δ ω).bind fun b ω1 => if b = true then fb δ ω1 else .ok (.bl false) ω1
def eOr (fa fb : EvE) : EvE := fun δ ω => (tB fa δ ω).bind fun b ω1 => if b = true then .ok (.bl true) ω1 else fb δ ω1
def eNot (fa : EvE) : EvE := fun δ ω => (tB fa δ ω).bind fun b ω1 => .ok (.bl (!b)) ω1
theorem tB_ok {ta : TE} (ha : ∀ M al σ H δ ω Q, DSt X.K W.P M al σ H δ ω → PostR X.K M al σ H δ (relE X.K M al) (fa δ ω) Q W → ta σ H Q) :
    ∀ M al σ H δ ω Q, DSt X.K W.P M al σ H δ ω → PostR X.K M al σ H δ relT (tB fa δ ω) Q W → ta σ H (fun x H1 => ∃ c, x = .bl c ∧ Q c H1) := fun M al σ H δ ω Q S h => by
  refine ha M al σ H δ ω _ S (post_mono (fun x H1 h1 => ?_) (post_bind (rel := relE X.K M al) h))
  obtain ⟨d1, ω1, e1, S1, f1, r1, h1⟩ := h1
  cases r1 <;> first | exact ⟨_, rfl, h1 _ _ S1 f1 rfl⟩ | exact h1.elim
theorem pd_one {op} (h : PEd X W a fa) : PEd X W (.BoolOp op [a] pos) fa := by
  obtain ⟨t, p1, q1⟩ := h.ex
  exact ⟨_, pe_one p1, q1⟩
theorem pd_and {rest : List Expr} (h : PEd X W a fa) (h2 : PEd X W (.BoolOp .And (b :: rest) pos) fb) : PEd X W (.BoolOp .And (a :: b :: rest) pos) (eAnd fa fb) := by
  obtain ⟨t, p1, q1⟩ := h.ex
  obtain ⟨t2, p2, q2⟩ := h2.ex
  refine ⟨_, pe_and p1 p2, fun M al σ H δ ω Q S h => ?_⟩
  refine tB_ok q1 M al σ H δ ω (fun c H1 => if c = true then t2 σ H1 Q else Q (.bl false) H1) S (post_mono (fun x H1 h1 => ?_) (post_bind (rel := relT) h))
  obtain ⟨d1, ω1, e1, S1, f1, rfl, h1⟩ := h1
  split at h1
  · rename_i e
    rw [if_pos e]
    exact q2 M al σ H1 δ ω1 _ S1 (post_from f1 h1)
  · rename_i e
    rw [if_neg e]
    exact h1 _ _ S1 f1 (.bl false)
theorem pd_or {rest : List Expr} (h : PEd X W a fa) (h2 : PEd X W (.BoolOp .Or (b :: rest) pos) fb) : PEd X W (.BoolOp .Or (a :: b :: rest) pos) (eOr fa fb) := by
  obtain ⟨t, p1, q1⟩ := h.ex
  obtain ⟨t2, p2, q2⟩ := h2.ex
  refine ⟨_, pe_or p1 p2, fun M al σ H δ ω Q S h => ?_⟩
  refine tB_ok q1 M al σ H δ ω (fun c H1 => if c = true then Q (.bl true) H1 else t2 σ H1 Q) S (post_mono (fun x H1 h1 => ?_) (post_bind (rel := relT) h))
  obtain ⟨d1, ω1, e1, S1, f1, rfl, h1⟩ := h1
  split at h1
  · rename_i e
    rw [if_pos e]
    exact h1 _ _ S1 f1 (.bl true)
  · rename_i e
    rw [if_neg e]
    exact q2 M al σ H1 δ ω1 _ S1 (post_from f1 h1)
theorem pd_not (h : PEd X W a fa) : PEd X W (.UnaryOp .Not a pos) (eNot fa) := by
  obtain ⟨t, p1, q1⟩ := h.ex
  refine ⟨_, pe_not p1, fun M al σ H δ ω Q S h => ?_⟩
  refine tB_ok q1 M al σ H δ ω (fun c H1 => Q (.bl (!c)) H1) S (post_mono (fun x H1 h1 => ?_) (post_bind (rel := relT) h))
  obtain ⟨d1, ω1, e1, S1, f1, rfl, h1⟩ := h1
  exact h1 _ _ S1 f1 (.bl _)
def eIf (ft : EvT) (fa fb : EvE) : EvE := fun δ ω => (ft δ ω).bind fun b ω1 => if b = true then fa δ ω1 else fb δ ω1
theorem pd_if {c : Expr} (h : PTd X W c ft) (ha : PEd X W a fa) (hb : PEd X W b fb) : PEd X W (.IfExp c a b pos) (eIf ft fa fb) := by
  obtain ⟨t, p1, q1⟩ := h.ex
  obtain ⟨t2, p2, q2⟩ := ha.ex
  obtain ⟨t3, p3, q3⟩ := hb.ex
  refine ⟨_, pe_ifExp p1 p2 p3, fun M al σ H δ ω Q S h => ?_⟩
  refine q1 M al σ H δ ω (fun c H1 => if c = true then t2 σ H1 Q else t3 σ H1 Q) S (post_mono (fun x H1 h1 => ?_) (post_bind (rel := relT) h))
  obtain ⟨d1, ω1, e1, S1, f1, rfl, h1⟩ := h1
  split at h1
  · rename_i e
    rw [if_pos e]
    exact q2 M al σ H1 δ ω1 _ S1 (post_from f1 h1)
  · rename_i e
    rw [if_neg e]
    exact q3 M al σ H1 δ ω1 _ S1 (post_from f1 h1)
end
end DL

namespace DL
open PySem PySem.Spec PyProof.Rows L2
section
variable {X : Cx} {W : Wt} {K : PySem.W.Frag} {M : Fm} {al : Nat → Option Addr} {σ : L2.St} {H : Hp} {δ : Sls}
variable {a b e c : Expr} {es : List Expr} {fa fb fc : EvE} {ft fu : EvT} {fs : EvA} {gs gt : EvS} {pos : Pos} {st : Stmt} {rest : List Stmt}
/-! ### statements -/
def sNext : EvS := fun δ ω => .ok (.nx δ) ω
def sSeq (g1 g2 : EvS) : EvS := fun δ ω => (g1 δ ω).bind fun fl ω1 => match fl with
  | .nx δ1 => g2 δ1 ω1
  | fl => .ok fl ω1
theorem posts_from {r : Rs Fl} {D : Ends} {H1 : Hp} {al1 : Nat → Option Addr} (f : FrS M al H H1) (x : AlExt H al al1) (h : PostS K M al H r D W) : PostS K M al1 H1 r D W := by
  cases r with
  | ok fl ω =>
    cases fl with
    | nx δ => exact fun al' σ' H' S f' y => h al' σ' H' S (f.trans x f') (x.trans f y)
    | bk δ => exact fun al' σ' H' S f' y => h al' σ' H' S (f.trans x f') (x.trans f y)
    | ct δ => exact fun al' σ' H' S f' y => h al' σ' H' S (f.trans x f') (x.trans f y)
    | rt d => exact h
  | err x ω => exact h
  | bad => exact h
theorem posts_seq {g2 : EvS} {u : TS} {D : Ends} {r : Rs Fl} (hu : ∀ M al σ H δ ω D, DSt K W.P M al σ H δ ω → PostS K M al H (g2 δ ω) D W → u D σ H)
    (h : PostS K M al H (r.bind fun fl ω1 => match fl with
      | .nx δ1 => g2 δ1 ω1
      | fl => .ok fl ω1) D W) : PostS K M al H r { D with nx := u D } W := by
  cases r with
  | ok fl ω =>
    cases fl with
    | nx δ => exact fun al' σ' H' S f' y => hu M al' σ' H' δ ω D S (posts_from f' y h)
    | bk δ => exact h
    | ct δ => exact h
    | rt d => exact h
  | err x ω => exact h
  | bad => exact h
theorem sd_nil : PSsd X W [] sNext := ⟨_, pss_nil, fun M al σ H δ ω D S h => h al σ H S (Fr.refl H) AlExt.refl⟩
theorem sd_cons (h1 : PSd X W st gs) (h2 : PSsd X W rest gt) : PSsd X W (st :: rest) (sSeq gs gt) := by
  obtain ⟨t, p1, q1⟩ := h1.ex
  obtain ⟨t2, p2, q2⟩ := h2.ex
  exact ⟨_, pss_cons p1 p2, fun M al σ H δ ω D S h => q1 M al σ H δ ω _ S (posts_seq q2 h)⟩
theorem sd_one (h1 : PSd X W st gs) : PSsd X W [st] gs := by
  obtain ⟨t, p1, q1⟩ := h1.ex
  exact ⟨_, pss_one p1, q1⟩
/-- from an expression to a statement -/
theorem posts_bind {α β : Type} {rel : Hp → β → α → Prop} {r : Rs α} {k : α → Om → Rs Fl} {D : Ends}
    (f0 : Fr M.Z M.H0 H) (h : PostS K M al H (r.bind k) D W) : PostR K M al σ H δ rel r (fun v H1 => ∃ a ω, r = .ok a ω ∧ DSt K W.P M al σ H1 δ ω ∧ Fr M.Z H H1 ∧ rel H1 v a ∧ PostS K M al H (k a ω) D W) W := by
  cases r with
  | ok a ω => exact fun v H' S f q => ⟨a, ω, rfl, S, f, q, h⟩
  | err x ω => exact fun cls dd H' f' g' x' => h cls dd H' (f0.trans f') g' (x'.less fun b hb _ => .inl hb)
  | bad => exact h
def sSet (i : Nat) (fa : EvE) : EvS := fun δ ω => (fa δ ω).bind fun d ω1 => .ok (.nx (δ.set i (.val d))) ω1
theorem sd_set {i : Nat} {x : Str} {pos' : Pos} (hN : X.N.Nodup) (hi : X.N[i]? = some x) (hx : Loc X.env.scope x) (he : PEd X W e fa) (hs : swapsWith e (some (.Name x pos')) pos.line X.env = pure false := by rfl) (hf : X.fn x = true ∨ X.env.scope.names.lookup x = some .local := by first | exact .inl rfl | exact .inr rfl | assumption) :
    PSd X W (.Assign [.Name x pos'] e pos) (sSet i fa) := by
  obtain ⟨t, p1, q1⟩ := he.ex
  refine ⟨_, ps_set (i := i) hN hi hx p1 hs hf, fun M al σ H δ ω D S h => ?_⟩
  refine q1 M al σ H δ ω _ S (post_mono (fun x H1 h1 => ?_) (posts_bind (rel := relE X.K M al) S.fr h))
  obtain ⟨d1, ω1, e1, S1, f1, r1, h1⟩ := h1
  exact h1 _ _ H1 (S1.set r1) f1.s AlExt.drop
/-- a, b = x, y -/
def sPar (i j : Nat) (fa fb : EvE) : EvS := fun δ ω => (fa δ ω).bind fun d ω1 => (fb δ ω1).bind fun d2 ω2 => .ok (.nx ((δ.set i (.val d)).set j (.val d2))) ω2
def sRet (fa : EvE) : EvS := fun δ ω => (fa δ ω).bind fun d ω1 => .ok (.rt d) ω1
theorem sd_ret (he : PEd X W e fa) : PSd X W (.Return (some e) pos) (sRet fa) := by
  obtain ⟨t, p1, q1⟩ := he.ex
  refine ⟨_, ps_ret p1, fun M al σ H δ ω D S h => ?_⟩
  refine q1 M al σ H δ ω _ S (post_mono (fun x H1 h1 => ?_) (posts_bind (rel := relE X.K M al) S.fr h))
  obtain ⟨d1, ω1, e1, S1, f1, r1, h1⟩ := h1
  exact h1 x H1 S1.fr S1.g (r1.less fun b hb _ => .inl hb)
def sExpr (fa : EvE) : EvS := fun δ ω => (fa δ ω).bind fun _ ω1 => .ok (.nx δ) ω1
theorem sd_expr (he : PEd X W e fa) (hs : swapsWith e none pos.line X.env = pure false := by rfl) : PSd X W (.Expr e pos) (sExpr fa) := by
  obtain ⟨t, p1, q1⟩ := he.ex
  refine ⟨_, ps_expr p1 hs, fun M al σ H δ ω D S h => ?_⟩
  refine q1 M al σ H δ ω _ S (post_mono (fun x H1 h1 => ?_) (posts_bind (rel := relE X.K M al) S.fr h))
  obtain ⟨d1, ω1, e1, S1, f1, r1, h1⟩ := h1
  exact h1 _ _ H1 S1 f1.s AlExt.refl
def sIf (ft : EvT) (g1 g2 : EvS) : EvS := fun δ ω => (ft δ ω).bind fun b ω1 => if b = true then g1 δ ω1 else g2 δ ω1
theorem sd_if {st1 st2 : List Stmt} (h : PTd X W c ft) (h1 : PSsd X W st1 gs) (h2 : PSsd X W st2 gt) : PSd X W (.If c st1 st2 pos) (sIf ft gs gt) := by
  obtain ⟨t, p1, q1⟩ := h.ex
  obtain ⟨t2, p2, q2⟩ := h1.ex
  obtain ⟨t3, p3, q3⟩ := h2.ex
  refine ⟨_, ps_if p1 p2 p3, fun M al σ H δ ω D S h => ?_⟩
  refine q1 M al σ H δ ω (fun b H1 => if b = true then t2 D σ H1 else t3 D σ H1) S (post_mono (fun x H1 h1 => ?_) (posts_bind (rel := relT) S.fr h))
  obtain ⟨d1, ω1, e1, S1, f1, rfl, h1⟩ := h1
  split at h1
  · rename_i e
    rw [if_pos e]
    exact q2 M al σ H1 δ ω1 _ S1 (posts_from f1.s AlExt.refl h1)
  · rename_i e
    rw [if_neg e]
    exact q3 M al σ H1 δ ω1 _ S1 (posts_from f1.s AlExt.refl h1)
def sBreak : EvS := fun δ ω => .ok (.bk δ) ω
def sCont : EvS := fun δ ω => .ok (.ct δ) ω
theorem sd_break : PSd X W (.Break pos) sBreak := ⟨_, ps_break, fun M al σ H δ ω D S h => h al σ H S (Fr.refl H) AlExt.refl⟩
theorem sd_cont : PSd X W (.Continue pos) sCont := ⟨_, ps_continue, fun M al σ H δ ω D S h => h al σ H S (Fr.refl H) AlExt.refl⟩
theorem sd_pass : PSd X W (.Pass pos) sNext := ⟨_, ps_pass, fun M al σ H δ ω D S h => h al σ H S (Fr.refl H) AlExt.refl⟩
theorem sd_doc {x : Str} {j pos'} : PSd X W (.Expr (.Constant (.str x) j pos) pos') sNext := ⟨_, ps_doc, fun M al σ H δ ω D S h => h al σ H S (Fr.refl H) AlExt.refl⟩

/-! ### targets -/
abbrev EvG := D → Sls → Om → Option Sls
abbrev alW (al : Nat → Option Addr) (vs : List Nat) : Nat → Option Addr := fun j => if j ∈ vs then none else al j
theorem alW_sub {al : Nat → Option Addr} {vs : List Nat} {j : Nat} {a : Addr} (h : alW al vs j = some a) : al j = some a ∧ j ∉ vs := by
  by_cases e : j ∈ vs
  · simp only [alW, if_pos e] at h; cases h
  · simp only [alW, if_neg e] at h; exact ⟨h, e⟩
theorem alW_twice (al : Nat → Option Addr) (vs : List Nat) : alW (alW al vs) vs = alW al vs := by
  funext j
  by_cases e : j ∈ vs
  · simp only [alW, if_pos e]
  · simp only [alW, if_neg e]
theorem alW_one (al : Nat → Option Addr) (i : Nat) : alW al [i] = fun j => if j = i then none else al j := by
  funext j
  by_cases e : j = i
  · simp [alW, e]
  · simp [alW, e]
abbrev GOk (K : PySem.W.Frag) (P : PP) (vs : List Nat) (t : TG) (g : EvG) : Prop := ∀ M al σ H δ ω v d δ' (Q : L2.St → Hp → Prop), DSt K P M al σ H δ ω → Rep K M.sa (NA M.N al) H v d → g d δ ω = some δ' →
  (∀ σ', DSt K P M (alW al vs) σ' H δ' ω → σ'.length = σ.length → (∀ k, k ∉ vs → σ'[k]? = σ[k]?) → Q σ' H) → t v σ H Q
structure PGd (X : Cx) (P : PP) (tg : Expr) (vs : List Nat) (g : EvG) : Prop where
  ex : ∃ t, PG X tg t ∧ GOk X.K P vs t g
def gdName (i : Nat) : EvG := fun d δ _ => some (δ.set i (.val d))
theorem gd_name {P : PP} {i : Nat} {x : Str} (hN : X.N.Nodup) (hi : X.N[i]? = some x) (hx : Loc X.env.scope x) (hf : X.fn x = true ∨ X.env.scope.names.lookup x = some .local := by first | exact .inl rfl | exact .inr rfl | assumption) : PGd X P (.Name x pos) [i] (gdName i) := by
  refine ⟨_, pg_name hN hi hx hf, fun M al σ H δ ω v d δ' Q S r hg k => ?_⟩
  cases hg
  exact k _ (by rw [alW_one]; exact S.set r) (List.length_set ..) fun j hj => List.getElem?_set_ne (fun e => hj (by simp [e]))

/-! ### what is walked -/
/-- the iterator J yields the data ds, whatever happens but to what the data is made of -/
def ItD (K : PySem.W.Frag) (sa : Addr) (N : Addr → Prop) (J : It) (H : Hp) (ds : List D) : Prop :=
  ds.length ≤ sizeLine ∧ ∀ N' Z : Addr → Prop, (∀ b, N' b → Tr H b → N b) → (∀ b, Z b → N b) → ∀ i H', Fr Z H H' →
    (i < ds.length → J.go i H' ∧ ∀ x H'', J.yld i H' x H'' → Same H' H'' ∧ ∃ d, ds[i]? = some d ∧ Rep K sa N' H'' x d) ∧ (ds.length ≤ i → J.stop i H')
abbrev EvI := Sls → Om → Rs (List D)
structure PId (X : Cx) (W : Wt) (tg e : Expr) (f : EvI) : Prop where
  ex : ∃ t, PI X tg e t ∧ ∀ M al σ H δ ω (R : It → Hp → Prop), DSt X.K W.P M al σ H δ ω → PostR X.K M al σ H δ (fun H1 J ds => ItD X.K M.sa (NA M.N al) J H1 ds) (f δ ω) (fun J H1 => R J H1) W → t σ H R
theorem SqT.eqFr {Z : Addr → Prop} {H H' : Hp} {a : Addr} {xs : List V} (f : Fr Z H H') (h : SqT K H a xs) : SqT K H' a xs := f.sqT h
/-- the items of a tuple or a list -/
def iSeq (fa : EvE) : EvI := fun δ ω => (fa δ ω).bind fun d ω1 => match d with
  | .tup ds => .ok ds ω1
  | _ => .bad
def iLst (fa : EvE) : EvI := fun δ ω => (fa δ ω).bind fun d ω1 => match d with
  | .lst ds => .ok ds ω1
  | .scr ns => .ok (ns.map .int) ω1
  | _ => .bad
theorem Rep.onto {sa : Addr} {N N' Z : Addr → Prop} {H' : Hp} {v : V} {d : D} (r : Rep K sa N H v d) (hn : ∀ b, N' b → Tr H b → N b) (hz : ∀ b, Z b → N b) (f : Fr Z H H') : Rep K sa N' H' v d :=
  ((r.less (N' := fun b => N b ∨ N' b) fun b hb e => hb.elim id fun h => hn b h e).mono f fun b z => .inl (hz b z)).less fun b hb _ => .inr hb
theorem itD_tup {sa : Addr} {N : Addr → Prop} {a : Addr} {xs : List V} {ds : List D} (h : SqT K H a xs) (hl : xs.length ≤ sizeLine) (r : Reps K sa N H xs ds) : ItD K sa N (Itt K a) H ds := ⟨by rw [← r.len]; exact hl, fun N' Z hn hz i H' f => by
  have h' := f.sqT h
  refine ⟨fun hi => ?_, fun hi => ⟨xs, h', by rw [r.len]; exact hi⟩⟩
  have hx : i < xs.length := by rw [r.len]; exact hi
  refine ⟨⟨xs, xs[i], h', List.getElem?_eq_getElem hx⟩, fun x H'' y => ?_⟩
  obtain ⟨rfl, y⟩ := y
  obtain ⟨d, hd, rd⟩ := r.get (y xs h')
  · exact ⟨Same.refl _, d, hd, rd.onto hn hz f⟩⟩
theorem id_tup {tg : Expr} (h : PEd X W e fa) : PId X W tg e (iSeq fa) := by
  obtain ⟨t, p1, q1⟩ := h.ex
  refine ⟨_, pi_tup p1, fun M al σ H δ ω R S h => ?_⟩
  refine q1 M al σ H δ ω _ S (post_mono (fun x H1 h1 => ?_) (post_bind (rel := relE X.K M al) h))
  obtain ⟨d1, ω1, e1, S1, f1, r1, h1⟩ := h1
  cases r1 with
  | tup h l r => exact ⟨_, rfl, ⟨_, h⟩, h1 _ _ S1 f1 (itD_tup h l r)⟩
  | _ => exact h1.elim
theorem ints_reps {sa : Addr} {N : Addr → Prop} : ∀ ns : List Int, Reps K sa N H (ns.map V.int) (ns.map D.int)
  | [] => .nil
  | n :: r => .cons (.int n) (ints_reps r)
theorem itD_lst {sa : Addr} {N : Addr → Prop} {a : Addr} {xs : List V} {ds : List D} (h : ∀ (Z : Addr → Prop) H', (∀ b, Z b → N b) → Fr Z H H' → SqL K H' a xs) (hl : xs.length ≤ sizeLine) (r : Reps K sa N H xs ds) : ItD K sa N (Itl K a) H ds := ⟨by rw [← r.len]; exact hl, fun N' Z hn hz i H' f => by
  have h' := h Z H' hz f
  refine ⟨fun hi => ?_, fun hi => ⟨xs, h', by rw [r.len]; exact hi⟩⟩
  have hx : i < xs.length := by rw [r.len]; exact hi
  refine ⟨⟨xs, xs[i], h', List.getElem?_eq_getElem hx⟩, fun x H'' y => ?_⟩
  obtain ⟨rfl, y⟩ := y
  obtain ⟨d, hd, rd⟩ := r.get (y xs h')
  · exact ⟨Same.refl _, d, hd, rd.onto hn hz f⟩⟩
theorem id_lst {tg : Expr} (h : PEd X W e fa) : PId X W tg e (iLst fa) := by
  obtain ⟨t, p1, q1⟩ := h.ex
  refine ⟨_, pi_list p1, fun M al σ H δ ω R S h => ?_⟩
  refine q1 M al σ H δ ω _ S (post_mono (fun x H1 h1 => ?_) (post_bind (rel := relE X.K M al) h))
  obtain ⟨d1, ω1, e1, S1, f1, r1, h1⟩ := h1
  cases r1 with
  | lst h n l r => exact ⟨_, rfl, ⟨_, SqL.of h⟩, h1 _ _ S1 f1 (itD_lst (fun Z H' hz f => SqL.of (f.keep _ _ h fun z => n (hz _ z))) l r)⟩
  | scr h l => exact ⟨_, rfl, ⟨_, h.sq⟩, h1 _ _ S1 f1 (itD_lst (fun Z H' hz f => (f.sqF h).sq) (by rw [List.length_map]; exact l) (ints_reps _))⟩
  | scrL h n l => exact ⟨_, rfl, ⟨_, SqL.of h⟩, h1 _ _ S1 f1 (itD_lst (fun Z H' hz f => SqL.of (f.keep _ _ h fun z => n (hz _ z))) (by rw [List.length_map]; exact l) (ints_reps _))⟩
  | _ => exact h1.elim
/-- range(n) -/
def iRange (fs : EvA) : EvI := fun δ ω => (fs δ ω).bind fun ds ω1 => match ds with
  | [.int n] => if -(2 ^ 62) ≤ n ∧ n ≤ (sizeLine : Nat) then .ok ((List.range n.toNat).map fun (k : Nat) => D.int (k : Nat)) ω1 else .bad
  | _ => .bad
theorem itD_range {sa : Addr} {N : Addr → Prop} {n : Nat} (hl : n ≤ sizeLine) : ItD K sa N (Itr 0 n) H ((List.range n).map fun (k : Nat) => D.int (k : Nat)) := ⟨by simpa using hl, fun N' Z hn hz i H' f => by
  refine ⟨fun hi => ?_, fun hi => (show n ≤ i by simpa using hi)⟩
  have hi' : i < n := by simpa using hi
  refine ⟨hi', fun x H'' y => ?_⟩
  obtain ⟨rfl, rfl⟩ := y
  refine ⟨Same.refl _, D.int (i : Nat), ?_, ?_⟩
  · rw [List.getElem?_map, List.getElem?_range hi']
    rfl
  · rw [Int.zero_add]
    exact .int _⟩
theorem id_range {tg : Expr} {p : Pos} (hm : X.mg "range" = none) (h : PAd X W [a] fs) (hg : Gl X "range" := by rfl) (hs : starEach [a] X.env = [(false, eval a X.env)] := by rfl) : PId X W tg (.Call (.Name "range" p) [a] [] pos) (iRange fs) := by
  obtain ⟨t, p1, q1⟩ := h.ex
  refine ⟨_, pi_range1 hg hm p1 hs, fun M al σ H δ ω R S h => ?_⟩
  refine q1 M al σ H δ ω _ S (post_mono (fun x H1 h1 => ?_) (post_bind (rel := relA X.K M al) h))
  obtain ⟨d1, ω1, e1, S1, f1, r1, h1⟩ := h1
  split at h1
  · rename_i n
    cases r1 with
    | cons r rn =>
      cases rn
      cases r
      split at h1
      · rename_i hn
        exact ⟨n, rfl, hn.1, by have := hn.2; rw [sizeLine_eq] at this; omega, h1 _ _ S1 f1 (itD_range (by have := hn.2; omega))⟩
      · exact h1.elim
  · exact h1.elim
/-! ### for -/
def loopF (g : EvG) (body : EvS) : List D → EvS
  | [] => sNext
  | d :: ds => fun δ ω => match g d δ ω with
    | none => .bad
    | some δ1 => (body δ1 ω).bind fun fl ω2 => match fl with
      | .nx δ2 => loopF g body ds δ2 ω2
      | .ct δ2 => loopF g body ds δ2 ω2
      | .bk δ2 => .ok (.nx δ2) ω2
      | .rt d => .ok (.rt d) ω2
def sFor (f : EvI) (g : EvG) (body : EvS) : EvS := fun δ ω => (f δ ω).bind fun ds ω1 => loopF g body ds δ ω1
theorem for_ok {g : TG} {fg : EvG} {tb : TS} {fb : EvS} {J : It} {ds : List D} {D : Ends} {ω : Om} {N : Addr → Prop}
    {vs : List Nat} (hg : GOk K W.P vs g fg)
    (hb : ∀ M al σ H δ ω D, DSt K W.P M al σ H δ ω → PostS K M al H (fb δ ω) D W → tb D σ H)
    (S : DSt K W.P M al σ H δ ω) (hJ : ItD K M.sa (NA M.N al) J H ds) (h : PostS K M al H (loopF fg fb ds δ ω) D W) :
    ∃ Wn : Nat → Nat → L2.St → Hp → Prop, (∃ m, Wn 0 m σ H) ∧ ∀ i m σ' H', Wn i m σ' H' → (J.stop i H' ∧ D.nx σ' H') ∨ (J.go i H' ∧ ∃ Nx : L2.St → Hp → Prop, (∀ σ'' H'', Nx σ'' H'' → ∃ m', m' < m ∧ Wn (i + 1) m' σ'' H'') ∧
      ∀ x H'', J.yld i H' x H'' → g x σ' H'' fun σ2 H2 => tb { D with nx := Nx, ct := Nx, bk := D.nx } σ2 H2) := by
  refine ⟨fun i m σ' H' => m = ds.length - i ∧ i ≤ ds.length ∧ ∃ al' δ' ω', DSt K W.P M al' σ' H' δ' ω' ∧ FrS M al H H' ∧ AlExt H al al' ∧ PostS K M al' H' (loopF fg fb (ds.drop i) δ' ω') D W, ⟨ds.length, by simp, Nat.zero_le _, al, δ, ω, S, Fr.refl H, AlExt.refl, h⟩, ?_⟩
  rintro i m σ1 H1 ⟨rfl, hi, al1, δ1, ω1, S1, f1, x1, h1⟩
  have hN : ∀ b, NA M.N al1 b → Tr H b → NA M.N al b := fun b hb ho => by
    rcases hb with hb | ⟨j, hb⟩
    · exact .inl hb
    · rcases x1 j b hb with ⟨k, hk⟩ | hk
      · exact .inr ⟨k, hk⟩
      · exact absurd ho hk
  obtain ⟨go, stop⟩ := hJ.2 (NA M.N al1) (fun b => M.Z b ∨ ∃ i, al i = some b) hN (fun b z => z.elim (fun z => .inl (S.zn b z)) .inr) i H1 f1
  by_cases hlt : i < ds.length
  · obtain ⟨go, yl⟩ := go hlt
    rw [List.drop_eq_getElem_cons hlt] at h1
    refine .inr ⟨go, fun σ' H' => ∃ al' δ' ω', DSt K W.P M al' σ' H' δ' ω' ∧ FrS M al H H' ∧ AlExt H al al' ∧ PostS K M al' H' (loopF fg fb (ds.drop (i + 1)) δ' ω') D W, fun σ'' H'' z => ⟨ds.length - (i + 1), by omega, rfl, hlt, z⟩, fun x H2 y => ?_⟩
    obtain ⟨sm, d, hd, rd⟩ := yl x H2 y
    have e : ds[i] = d := by
      rw [List.getElem?_eq_getElem hlt] at hd
      exact Option.some.inj hd
    subst e
    have S2 : DSt K W.P M al1 σ1 H2 δ1 ω1 := S1.same sm
    have f2 : FrS M al H H2 := Fr.trans f1 (.same sm)
    unfold loopF at h1
    cases eg : fg ds[i] δ1 ω1 with
    | none => rw [eg] at h1; exact (show False from h1).elim
    | some δ2 =>
      rw [eg] at h1
      dsimp only at h1
      refine hg M al1 σ1 H2 δ1 ω1 x _ δ2 _ S2 rd eg fun σ2 S3 _ _ => ?_
      have x2 : AlExt H2 al1 (alW al1 vs) := fun j a q => .inl ⟨j, (alW_sub q).1⟩
      have x12 : AlExt H al (alW al1 vs) := x1.trans f2 x2
      have x02 : AlExt H1 al1 (alW al1 vs) := fun j a q => .inl ⟨j, (alW_sub q).1⟩
      refine hb M (alW al1 vs) σ2 H2 δ2 ω1 _ S3 ?_
      cases er : fb δ2 ω1 with
      | ok fl ω3 =>
        rw [er] at h1
        cases fl with
        | nx δ3 => exact fun al3 σ3 H3 S4 f3 x3 => ⟨al3, δ3, ω3, S4, f2.trans x12 f3, x12.trans f2 x3, posts_from (FrS.trans (al1 := alW al1 vs) (Fr.same sm) x02 f3) (x02.trans (Z := fun _ => False) (.same sm) x3) h1⟩
        | ct δ3 => exact fun al3 σ3 H3 S4 f3 x3 => ⟨al3, δ3, ω3, S4, f2.trans x12 f3, x12.trans f2 x3, posts_from (FrS.trans (al1 := alW al1 vs) (Fr.same sm) x02 f3) (x02.trans (Z := fun _ => False) (.same sm) x3) h1⟩
        | bk δ3 => exact fun al3 σ3 H3 S4 f3 x3 => h1 al3 σ3 H3 S4 (FrS.trans (al1 := alW al1 vs) (Fr.same sm) x02 f3) (x02.trans (Z := fun _ => False) (.same sm) x3)
        | rt d => exact h1
      | err z ω3 => rw [er] at h1; exact h1
      | bad => rw [er] at h1; exact h1
  · have e : i = ds.length := by omega
    subst e
    rw [List.drop_length] at h1
    exact .inl ⟨stop (Nat.le_refl _), h1 al1 σ1 H1 S1 (Fr.refl _) AlExt.refl⟩
theorem sd_for {iter tg : Expr} {body : List Stmt} {fi : EvI} {g : EvG} {fb : EvS} (hp : PassesOwn (model X.prog X.w) X.A X.env X.xe) (hc : X.calm = true) {vs : List Nat} (hi : PId X W tg iter fi) (hg : PGd X W.P tg vs g) (hb : PSsd X W body fb)
    (hs : ∀ x, foldedSetIterable iter X.env x = pure x := by intro _; rfl) : PSd X W (.For tg iter body [] pos) (sFor fi g fb) := by
  obtain ⟨t, p1, q1⟩ := hi.ex
  obtain ⟨t2, p2, q2⟩ := hg.ex
  obtain ⟨t3, p3, q3⟩ := hb.ex
  refine ⟨_, ps_for hp hc p1 p2 p3 hs, fun M al σ H δ ω D S h => ?_⟩
  refine q1 M al σ H δ ω _ S (post_mono (fun J H1 h1 => ?_) (posts_bind (rel := fun H1 J ds => ItD X.K M.sa (NA M.N al) J H1 ds) S.fr h))
  obtain ⟨ds, ω1, e1, S1, f1, r1, h1⟩ := h1
  exact for_ok q2 q3 S1 r1 (posts_from f1.s AlExt.refl h1) (N := M.N)
/-! ### a def -/
theorem fn_ok {Pr : Program} {w : World} {P : PP} {mg : Str → Option Value} {base : Heap} {x qual : Str} {std : Stmt} {f : Addr} {fd : FuncData} {N ps : List Str} {k n : Nat} {g : EvS} (F : Fun K x qual std f fd) (sc : FnScope N ps (defScope std)) (hn : ps.length = n) (hN : N.length = n + (N.length - n))
    (hb : ∀ (cdv : Value) (A : Around) (outer : List Env) (s : Shared) (H : Hp) (E : XK), Room k (A.deeper (envOfC qual (defScope std) s.heap.objs.size f cdv)) → Takes (cxOf (L2.CX Pr w) Pr w K mg base N qual (defScope std) f cdv A outer s H E) (fun cls d _ H => E cls d H) →
      PSsd (cxOf (L2.CX Pr w) Pr w K mg base N qual (defScope std) f cdv A outer s H E) ⟨E, P⟩ (defBody std) g) : FnOk Pr w K mg base (L2.CX Pr w) (k + 1) f fd ps (spD K P n (runB N.length g)) := by
  refine F.okX sc (fun vs H Q E h => by rw [h.1, hn]) fun cdv A outer s H vs Q E hr h => ?_
  obtain ⟨t, p1, q1⟩ := (hb cdv A outer s H E hr (takes_of rfl rfl rfl rfl)).ex
  obtain ⟨hl, M, ds, ω, rfl, pp, zn, gm, gG, nt, r, h⟩ := h
  refine ⟨t, p1, q1 M (fun _ => none) _ _ (ds.map .val ++ List.replicate (N.length - ds.length) .emp) ω _ ⟨pp, zn, gm, gG, nt, Fr.refl _, ?_, fun i hi => ?_, fun i j a z => (by cases z), fun i a z => (by cases z)⟩ ?_⟩
  · unfold L2.start
    simp only [List.length_append, List.length_map, List.length_replicate, r.len]
  · unfold L2.start
    have len := r.len
    by_cases hlt : i < ds.length
    · have hv : i < vs.length := by omega
      rw [List.getElem?_append_left (by simpa using hv), List.getElem?_append_left (by simpa using hlt), List.getElem?_map, List.getElem?_map]
      cases e : vs[i]? with
      | none => rw [List.getElem?_eq_none_iff] at e; omega
      | some v =>
        obtain ⟨d, hd, rd⟩ := r.get e
        rw [hd]
        exact .val (rd.less fun b hb _ => by
          rcases hb with hb | ⟨_, hb⟩
          · exact hb
          · cases hb)
    · have hv : vs.length ≤ i := by omega
      have e : ((ds.map Sl.val ++ List.replicate (N.length - ds.length) Sl.emp)[i]?).getD .emp = Sl.emp := by
        rw [List.getElem?_append_right (by simp; omega), List.getElem?_replicate]
        split <;> rfl
      rw [e]
      exact .emp
  · unfold runB at h
    cases e : g (ds.map .val ++ List.replicate (N.length - ds.length) .emp) ω with
    | ok fl ω' =>
      rw [e] at h
      cases fl with
      | nx δ => exact fun al' σ' H' S f _ => h .non H' S.fr S.g .non
      | rt d => exact fun v H' f g r => h v H' f g r
      | bk δ => exact h.elim
      | ct δ => exact h.elim
    | err z ω' => rw [e] at h; exact h
    | bad => rw [e] at h; exact h.elim
end
end DL

namespace DL
open PySem PySem.Spec PyProof.Rows L2
section
variable {X : Cx} {W : Wt} {P : PP} {K : PySem.W.Frag} {M : Fm} {al : Nat → Option Addr} {σ : L2.St} {H : Hp} {δ : Sls} {ω : Om}
variable {a b e c : Expr} {es : List Expr} {fa fb fc : EvE} {ft fu : EvT} {fs : EvA} {gs gt : EvS} {pos : Pos} {st : Stmt} {rest : List Stmt}
/-! ### comprehensions -/
def wipeD (δ : Sls) : List Nat → Sls
  | [] => δ
  | v :: vs => (wipeD δ vs).set v .emp
theorem wipeD_length (δ : Sls) : ∀ vs : List Nat, (wipeD δ vs).length = δ.length
  | [] => rfl
  | v :: vs => by unfold wipeD; rw [List.length_set, wipeD_length δ vs]
theorem wipeD_in {δ : Sls} {i : Nat} : ∀ {vs : List Nat}, i ∈ vs → ((wipeD δ vs)[i]?).getD .emp = .emp
  | v :: vs, h => by
    unfold wipeD
    by_cases e : v = i
    · subst e
      by_cases hv : v < (wipeD δ vs).length
      · rw [List.getElem?_set_self hv]; rfl
      · rw [List.getElem?_eq_none (by simpa using hv)]; rfl
    · rw [List.getElem?_set_ne e]
      exact wipeD_in ((List.mem_cons.mp h).resolve_left (Ne.symm e))
theorem wipeD_out {δ : Sls} {i : Nat} : ∀ {vs : List Nat}, i ∉ vs → (wipeD δ vs)[i]? = δ[i]?
  | [], _ => rfl
  | v :: vs, h => by
    unfold wipeD
    have h' : i ≠ v ∧ i ∉ vs := by simpa using h
    rw [List.getElem?_set_ne (Ne.symm h'.1)]
    exact wipeD_out h'.2
theorem wipe_outS {σ : L2.St} {i : Nat} : ∀ {vs : List Nat}, i ∉ vs → (wipe σ vs)[i]? = σ[i]?
  | [], _ => rfl
  | v :: vs, h => by
    unfold wipe
    have h' : i ≠ v ∧ i ∉ vs := by simpa using h
    rw [List.getElem?_set_ne (Ne.symm h'.1)]
    exact wipe_outS h'.2
theorem wipe_inS {σ : L2.St} {i : Nat} (hi : i < σ.length) : ∀ {vs : List Nat}, i ∈ vs → (wipe σ vs)[i]? = some none
  | v :: vs, h => by
    unfold wipe
    by_cases e : v = i
    · subst e
      rw [List.getElem?_set_self (by rw [wipe_length]; exact hi)]
    · rw [List.getElem?_set_ne e]
      exact wipe_inS hi ((List.mem_cons.mp h).resolve_left (Ne.symm e))
/-- what differs only at vs is wiped alike -/
theorem wipe_eq {σ σ' : L2.St} {vs : List Nat} (hl : σ'.length = σ.length) (h : ∀ k, k ∉ vs → σ'[k]? = σ[k]?) : wipe σ' vs = wipe σ vs := by
  refine List.ext_getElem? fun k => ?_
  by_cases hk : k < σ.length
  · by_cases hv : k ∈ vs
    · rw [wipe_inS hk hv, wipe_inS (by rw [hl]; exact hk) hv]
    · rw [wipe_outS hv, wipe_outS hv, h k hv]
  · rw [List.getElem?_eq_none (by rw [wipe_length]; omega), List.getElem?_eq_none (by rw [wipe_length]; omega)]
theorem wipe_twice (σ : L2.St) (vs : List Nat) : wipe (wipe σ vs) vs = wipe σ vs := wipe_eq (wipe_length σ vs) fun k hk => wipe_outS hk
/-- within a comprehension: its list at L (and the lists of slots that its names hide) are not for data -/
abbrev Fm.cmp (M : Fm) (al : Nat → Option Addr) (vs : List Nat) (L : Addr) : Fm := { M with N := fun b => M.N b ∨ b = L ∨ ∃ i, i ∈ vs ∧ al i = some b }
theorem na_cmp {vs : List Nat} {L : Addr} (b : Addr) : NA (M.cmp al vs L).N (alW al vs) b ↔ (NA M.N al b ∨ b = L) := by
  constructor
  · rintro ((h | h | ⟨i, _, h⟩) | ⟨i, h⟩)
    · exact .inl (.inl h)
    · exact .inr h
    · exact .inl (.inr ⟨i, h⟩)
    · by_cases e : i ∈ vs
      · simp only [alW, if_pos e] at h; cases h
      · simp only [alW, if_neg e] at h; exact .inl (.inr ⟨i, h⟩)
  · rintro ((h | ⟨i, h⟩) | h)
    · exact .inl (.inl h)
    · by_cases e : i ∈ vs
      · exact .inl (.inr (.inr ⟨i, e, h⟩))
      · exact .inr ⟨i, by simp only [alW, if_neg e]; exact h⟩
    · exact .inl (.inr (.inl h))
theorem DSt.cmp (S : DSt K P M al σ H δ ω) {L : Addr} {vs : List Nat} (hL : H L = none) {xs : List V} : DSt K P (M.cmp al vs L) (alW al vs) (wipe σ vs) (upd H L (.lst xs)) (wipeD δ vs) ω where
  pp := S.pp
  zn := fun b z => .inl (S.zn b z)
  gm := S.gm
  g := S.gm.same (same_upd hL) S.g
  nt := fun b hb => by
    rcases hb with hb | rfl | ⟨i, _, hb⟩
    · obtain ⟨o, e, n⟩ := S.nt b hb
      exact ⟨o, same_upd hL _ _ e, n⟩
    · exact ⟨_, upd_same, trivial⟩
    · obtain ⟨xs, e⟩ := S.own_there hb
      exact ⟨_, same_upd hL _ _ e, trivial⟩
  fr := S.fr.trans (.same (same_upd hL))
  len := by rw [wipe_length, wipeD_length]; exact S.len
  sl := fun i hi => by
    rw [wipeD_length] at hi
    by_cases hv : i ∈ vs
    · rw [wipeD_in hv]
      simp only [alW, if_pos hv]
      exact .emp
    · rw [wipeD_out hv, wipe_outS hv]
      simp only [alW, if_neg hv]
      have q := (S.sl i hi).mono (Fr.same (Z := fun _ => False) (same_upd (o := .lst xs) hL)) (fun _ _ z => z) (fun _ z => z.elim)
      have hle : ∀ b, NA (M.cmp al vs L).N (alW al vs) b → Tr H b → NA M.N al b := fun b hb ⟨o, ho, _⟩ => by
        rcases na_cmp b |>.mp hb with h | rfl
        · exact h
        · rw [hL] at ho; cases ho
      have q0 := S.sl i hi
      generalize (σ[i]?).getD none = ov at q0 ⊢
      generalize (δ[i]?).getD .emp = x at q0 ⊢
      generalize al i = w at q0 ⊢
      cases q0 with
      | emp => exact .emp
      | val r => exact .val ((r.less hle).mono (Fr.same (Z := fun _ => False) (same_upd hL)) fun _ z => z.elim)
      | own h l r => exact .own (same_upd hL _ _ h) l ((r.less hle).mono (Fr.same (Z := fun _ => False) (same_upd hL)) fun _ z => z.elim)
  inj := fun i j x h1 h2 => by
    by_cases e1 : i ∈ vs
    · simp only [alW, if_pos e1] at h1; cases h1
    · by_cases e2 : j ∈ vs
      · simp only [alW, if_pos e2] at h2; cases h2
      · simp only [alW, if_neg e1] at h1
        simp only [alW, if_neg e2] at h2
        exact S.inj i j x h1 h2
  fresh := fun i x h => by
    by_cases e1 : i ∈ vs
    · simp only [alW, if_pos e1] at h; cases h
    · simp only [alW, if_neg e1] at h
      obtain ⟨f1, f2, f3⟩ := S.fresh i x h
      refine ⟨f1, ?_, by rw [wipeD_length]; exact f3⟩
      rintro (z | rfl | ⟨j, hj, z⟩)
      · exact f2 z
      · obtain ⟨ys, e⟩ := S.own_there h
        rw [hL] at e; cases e
      · have e := S.inj i j x h z
        rw [e] at e1
        exact e1 hj
/-- the shut list at L is written -/
theorem DSt.wr (S : DSt K P M al σ H δ ω) {L : Addr} {xs ys : List V} (hL : H L = some (.lst xs)) (hN : M.N L) (hZ : ¬ M.Z L) (h0 : ¬ Tr M.H0 L) : DSt K P M al σ (upd H L (.lst ys)) δ ω := by
  have fr : Fr (fun b => M.Z b ∨ b = L) H (upd H L (.lst ys)) := ⟨fun b o e k => by
      by_cases hb : b = L
      · subst hb
        rw [hL] at e; cases e
        exact absurd (.inr rfl) k
      · rw [upd_ne hb]; exact e, fun b ⟨o, e, n⟩ => by
      by_cases hb : b = L
      · subst hb; exact ⟨_, upd_same, trivial⟩
      · exact ⟨o, by rw [upd_ne hb]; exact e, n⟩⟩
  have hz : ∀ b, (M.Z b ∨ b = L) → NA M.N al b := fun b hb => by
    rcases hb with hb | rfl
    · exact .inl (S.zn b hb)
    · exact .inl hN
  refine ⟨S.pp, S.zn, S.gm, S.gm _ _ _ (fun b o e k => ?_) S.g, fun b hb => ?_, ⟨fun b o e k => ?_, fun b e => ?_⟩, S.len, fun i hi => (S.sl i hi).mono fr (fun a e z => ?_) hz, S.inj, S.fresh⟩
  · by_cases hb : b = L
    · subst hb
      rw [hL] at e; cases e
      rcases k with k | k | ⟨ps, k⟩
      · exact absurd k hZ
      · exact absurd trivial k
      · cases k
    · rw [upd_ne hb]; exact e
  · exact fr.there b (S.nt b hb)
  · have hb : b ≠ L := fun z => h0 (z ▸ ⟨o, e, .of_keep k⟩)
    rw [upd_ne hb]
    exact S.fr.keep b o e k
  · exact fr.there b (S.fr.there b e)
  · rcases z with z | z
    · exact (S.fresh i a e).2.1 (S.zn a z)
    · rw [z] at e
      exact (S.fresh i L e).2.1 hN
def compF (g : EvG) (ft : EvT) (fe : EvE) (δ : Sls) : List D → Om → Rs (List D)
  | [], ω => .ok [] ω
  | d :: ds, ω => match g d δ ω with
    | none => .bad
    | some δ1 => (ft δ1 ω).bind fun b ω1 => if b = true then (fe δ1 ω1).bind fun y ω2 => (compF g ft fe δ ds ω2).bind fun ys ω3 => .ok (y :: ys) ω3 else compF g ft fe δ ds ω1
def noErr {α : Type} : Rs α → Rs α
  | .err _ _ => .bad
  | r => r
def eComp (f : EvI) (g : EvG) (ft : EvT) (fe : EvE) (vs : List Nat) : EvE := fun δ ω => (f δ ω).bind fun ds ω1 => (noErr (compF g ft fe (wipeD δ vs) ds ω1)).bind fun ys ω2 => .ok (.lst ys) ω2
def tTrue : EvT := fun _ ω => .ok true ω
structure PTsd (X : Cx) (W : Wt) (ifs : List Expr) (f : EvT) : Prop where
  ex : ∃ t, PTs X ifs t ∧ ∀ M al σ H δ ω Q, DSt X.K W.P M al σ H δ ω → PostR X.K M al σ H δ relT (f δ ω) Q W → t σ H Q
theorem tsd_nil : PTsd X W [] tTrue := ⟨_, pts_nil, fun M al σ H δ ω Q S h => h true H S (Fr.refl H) rfl⟩
theorem tsd_one {c : Expr} (h : PTd X W c ft) : PTsd X W [c] ft := by
  obtain ⟨t, p1, q1⟩ := h.ex
  exact ⟨_, pts_one p1, q1⟩
abbrev NoX (P : PP) : Wt := ⟨fun _ _ _ => False, P⟩
theorem comp_okG {rel : Hp → V → D → Prop} {g : TG} {fg : EvG} {tt : TT} {te : TE} {fe : EvE} {J : It} {ds : List D} {Q : VK} {vs : List Nat} (hg : GOk K W.P vs g fg)
    (ht : ∀ M al σ H δ ω Q, DSt K W.P M al σ H δ ω → PostR K M al σ H δ relT (ft δ ω) Q (NoX W.P) → tt σ H Q)
    (he : ∀ M al σ H δ ω Q, DSt K W.P M al σ H δ ω → PostR K M al σ H δ (relE K M al) (fe δ ω) Q (NoX W.P) → te σ H Q)
    (S : DSt K W.P M al σ H δ ω) (hJ : ItD K M.sa (NA M.N al) J H ds) (L : Addr) (hrel : ∀ H' xs ds, H' L = some (.lst xs) → xs.length ≤ sizeLine → Reps K M.sa (fun b => NA M.N al b ∨ b = L) H' xs ds → rel H' (.ref L) (.lst ds)) (h : PostR K M al σ H δ rel ((noErr (compF fg ft fe (wipeD δ vs) ds ω)).bind fun ys ω2 => .ok (.lst ys) ω2) Q W) (hL : H L = none) :
    ∃ Wn : Nat → Nat → Hp → Prop, (∃ m, Wn 0 m (upd H L (.lst []))) ∧ ∀ i m H', Wn i m H' →
      (J.stop i H' ∧ Q (.ref L) H') ∨ (J.go i H' ∧ ∃ Nx : Hp → Prop, (∀ H'', Nx H'' → ∃ m', m' < m ∧ Wn (i + 1) m' H'') ∧ ∀ x H'', J.yld i H' x H'' → g x (wipe σ vs) H'' fun σ2 H2 => wipe σ2 vs = wipe σ vs ∧ tt σ2 H2 fun b H3 =>
        if b = true then te σ2 H3 fun y H4 => ∃ acc, H4 L = some (.lst acc) ∧ acc.length < sizeLine ∧ Nx (upd H4 L (.lst (acc ++ [y]))) else Nx H3) := by
  -- what the rest gives, behind acc
  let Inv0 : Nat → Hp → Prop := fun i H' => ∃ (acc : List V) (ys : List D) (ω' : Om), DSt K W.P (M.cmp al vs L) (alW al vs) (wipe σ vs) H' (wipeD δ vs) ω' ∧ Fr M.Z H H' ∧ H' L = some (.lst acc) ∧ Reps K M.sa (NA (M.cmp al vs L).N (alW al vs)) H' acc ys ∧ acc.length ≤ i ∧
    PostR K M al σ H δ rel ((noErr (compF fg ft fe (wipeD δ vs) (ds.drop i) ω')).bind fun zs ω2 => .ok (.lst (ys ++ zs)) ω2) Q W
  have hNL : (M.cmp al vs L).N L := .inr (.inl rfl)
  have hZL : ¬ M.Z L := fun z => Tr.not hL (S.nt L (S.zn L z))
  have h0L : ¬ Tr M.H0 L := fun z => Tr.not hL (S.fr.there L z)
  refine ⟨fun i m H' => m = ds.length - i ∧ i ≤ ds.length ∧ Inv0 i H', ⟨ds.length, by simp, Nat.zero_le _, [], [], ω, S.cmp hL, .same (same_upd hL), upd_same, .nil, Nat.le_refl _, by simpa using h⟩, ?_⟩
  rintro i m H1 ⟨rfl, hi, acc, ys, ω1, S1, f1, hA, rA, lA, h1⟩
  have hN : ∀ b, NA (M.cmp al vs L).N (alW al vs) b → Tr H b → NA M.N al b := fun b hb ⟨o, ho, _⟩ => by
    rcases na_cmp b |>.mp hb with h | rfl
    · exact h
    · rw [hL] at ho; cases ho
  obtain ⟨go, stop⟩ := hJ.2 _ M.Z hN S.zna i H1 f1
  by_cases hlt : i < ds.length
  · obtain ⟨go, yl⟩ := go hlt
    rw [List.drop_eq_getElem_cons hlt] at h1
    refine .inr ⟨go, Inv0 (i + 1), fun H'' z => ⟨ds.length - (i + 1), by omega, rfl, hlt, z⟩, fun x H2 y => ?_⟩
    obtain ⟨sm, d, hd, rd⟩ := yl x H2 y
    have e : ds[i] = d := by
      rw [List.getElem?_eq_getElem hlt] at hd
      exact Option.some.inj hd
    subst e
    have S2 := S1.same sm
    have f2 : Fr M.Z H H2 := f1.trans (.same sm)
    unfold compF at h1
    cases eg : fg ds[i] (wipeD δ vs) ω1 with
    | none => rw [eg] at h1; exact (show False from h1).elim
    | some δ2 =>
      rw [eg] at h1
      dsimp only at h1
      refine hg (M.cmp al vs L) (alW al vs) (wipe σ vs) H2 _ ω1 x _ δ2 _ S2 rd eg fun σ2 S3 hl2 hk2 => ?_
      rw [alW_twice] at S3
      refine ⟨(wipe_eq hl2 hk2).trans (wipe_twice σ vs), ?_⟩
      refine ht (M.cmp al vs L) (alW al vs) σ2 H2 δ2 ω1 _ S3 ?_
      cases et : ft δ2 ω1 with
      | err z ω3 => rw [et] at h1; exact (show False from h1).elim
      | bad => rw [et] at h1; exact (show False from h1).elim
      | ok bt ω3 =>
        rw [et] at h1
        dsimp only [Rs.bind] at h1
        intro bv H3 S4 f3 eb
        have eb : bv = bt := eb
        subst eb
        cases bv with
        | false =>
          rw [if_neg (by decide)] at h1 ⊢
          exact ⟨acc, ys, ω3, S2.go f3 S4.g, f2.trans f3, f3.keep _ _ (sm _ _ hA) hZL, rA.mono ((Fr.same sm).trans f3) S1.zna, Nat.le_succ_of_le lA, h1⟩
        | true =>
          rw [if_pos rfl] at h1 ⊢
          refine he (M.cmp al vs L) (alW al vs) σ2 H3 δ2 ω3 _ S4 ?_
          cases ee : fe δ2 ω3 with
          | err z ω4 => rw [ee] at h1; exact (show False from h1).elim
          | bad => rw [ee] at h1; exact (show False from h1).elim
          | ok yd ω4 =>
            rw [ee] at h1
            dsimp only [Rs.bind] at h1
            intro yv H4 S5 f4 ry
            have f24 : Fr M.Z H2 H4 := f3.trans f4
            have hA4 : H4 L = some (.lst acc) := f24.keep _ _ (sm _ _ hA) hZL
            have S6 := (S2.go f24 S5.g).wr (ys := acc ++ [yv]) hA4 hNL hZL h0L
            have frw : Fr (fun b => M.Z b ∨ b = L) H4 (upd H4 L (.lst (acc ++ [yv]))) := ⟨fun b o e k => by
              by_cases hb : b = L
              · subst hb
                rw [hA4] at e; cases e
                exact absurd (.inr rfl) k
              · rw [upd_ne hb]; exact e, fun b ⟨o, e, n⟩ => by
              by_cases hb : b = L
              · subst hb; exact ⟨_, upd_same, trivial⟩
              · exact ⟨o, by rw [upd_ne hb]; exact e, n⟩⟩
            have hzw : ∀ b, (M.Z b ∨ b = L) → NA (M.cmp al vs L).N (alW al vs) b := fun b hb => by
              rcases hb with hb | rfl
              · exact .inl (.inl (S.zn b hb))
              · exact .inl hNL
            have rA4 := ((rA.mono ((Fr.same sm).trans f24) S1.zna).app (.cons ry .nil)).mono frw hzw
            have lt : acc.length < sizeLine := by have := hJ.1; omega
            refine ⟨acc, hA4, lt, acc ++ [yv], ys ++ [yd], ω4, S6, ?_, upd_same, rA4, by rw [List.length_append, List.length_singleton]; omega, ?_⟩
            · have f4' : Fr M.Z H H4 := f2.trans f24
              refine ⟨fun b o e k => ?_, fun b e => frw.there b (f4'.there b e)⟩
              have hb : b ≠ L := fun z => by rw [z, hL] at e; cases e
              rw [upd_ne hb]
              exact f4'.keep b o e k
            · cases ec : compF fg ft fe (wipeD δ vs) (ds.drop (i + 1)) ω4 with
              | err z ω5 => rw [ec] at h1; exact (show False from h1).elim
              | bad => rw [ec] at h1; exact (show False from h1).elim
              | ok zs ω5 =>
                rw [ec] at h1
                have e5 : ys ++ [yd] ++ zs = ys ++ (yd :: zs) := by simp
                show PostR K M al σ H δ rel (.ok (.lst (ys ++ [yd] ++ zs)) ω5) Q W
                rw [e5]
                exact h1
  · have e : i = ds.length := by omega
    subst e
    rw [List.drop_length] at h1
    refine .inl ⟨stop (Nat.le_refl _), ?_⟩
    have h1' : PostR K M al σ H δ rel (.ok (.lst (ys ++ [])) ω1) Q W := h1
    rw [List.append_nil] at h1'
    refine h1' _ H1 (S.go f1 S1.g) f1 (hrel _ _ _ hA ?_ (rA.less fun b hb _ => na_cmp b |>.mpr hb))
    have := hJ.1
    omega
theorem comp_ok {g : TG} {fg : EvG} {tt : TT} {te : TE} {fe : EvE} {J : It} {ds : List D} {Q : VK} {vs : List Nat} (hg : GOk K W.P vs g fg)
    (ht : ∀ M al σ H δ ω Q, DSt K W.P M al σ H δ ω → PostR K M al σ H δ relT (ft δ ω) Q (NoX W.P) → tt σ H Q)
    (he : ∀ M al σ H δ ω Q, DSt K W.P M al σ H δ ω → PostR K M al σ H δ (relE K M al) (fe δ ω) Q (NoX W.P) → te σ H Q)
    (S : DSt K W.P M al σ H δ ω) (hJ : ItD K M.sa (NA M.N al) J H ds) (h : PostR K M al σ H δ (relE K M al) ((noErr (compF fg ft fe (wipeD δ vs) ds ω)).bind fun ys ω2 => .ok (.lst ys) ω2) Q W) (L : Addr) (hL : H L = none) :
    ∃ Wn : Nat → Nat → Hp → Prop, (∃ m, Wn 0 m (upd H L (.lst []))) ∧ ∀ i m H', Wn i m H' →
      (J.stop i H' ∧ Q (.ref L) H') ∨ (J.go i H' ∧ ∃ Nx : Hp → Prop, (∀ H'', Nx H'' → ∃ m', m' < m ∧ Wn (i + 1) m' H'') ∧ ∀ x H'', J.yld i H' x H'' → g x (wipe σ vs) H'' fun σ2 H2 => wipe σ2 vs = wipe σ vs ∧ tt σ2 H2 fun b H3 =>
        if b = true then te σ2 H3 fun y H4 => ∃ acc, H4 L = some (.lst acc) ∧ acc.length < sizeLine ∧ Nx (upd H4 L (.lst (acc ++ [y]))) else Nx H3) :=
  comp_okG hg ht he S hJ L (fun H' xs ds h1 h2 r => .lst h1 (fun z => Tr.not hL (S.naT L z)) h2 (r.less fun b hb _ => .inl hb)) h hL
theorem fam_e {ι : Type} {Xi : ι → Cx} {fe : EvE} (hK : ∀ i, (Xi i).K = K) (h : ∀ i, PEd (Xi i) (NoX W.P) e fe) :
    ∃ t, (∀ M al σ H δ ω Q, DSt K W.P M al σ H δ ω → PostR K M al σ H δ (relE K M al) (fe δ ω) Q (NoX W.P) → t σ H Q) ∧ ∀ i, PE (Xi i) e t := by
  refine ⟨fun σ H Q => ∀ i t, PE (Xi i) e t → (∀ M al σ H δ ω Q, DSt K W.P M al σ H δ ω → PostR K M al σ H δ (relE K M al) (fe δ ω) Q (NoX W.P) → t σ H Q) → t σ H Q, fun M al σ H δ ω Q S h i t _ ht => ht M al σ H δ ω Q S h, fun i => ?_⟩
  obtain ⟨t, p, q⟩ := (h i).ex
  rw [hK i] at q
  exact ⟨fun pins s σ H Q I hq => p.run pins s σ H Q I (hq i t p q)⟩
theorem fam_ts {ι : Type} {Xi : ι → Cx} {ifs : List Expr} (hK : ∀ i, (Xi i).K = K) (h : ∀ i, PTsd (Xi i) (NoX W.P) ifs ft) :
    ∃ t, (∀ M al σ H δ ω Q, DSt K W.P M al σ H δ ω → PostR K M al σ H δ relT (ft δ ω) Q (NoX W.P) → t σ H Q) ∧ ∀ i, PTs (Xi i) ifs t := by
  refine ⟨fun σ H Q => ∀ i t, PTs (Xi i) ifs t → (∀ M al σ H δ ω Q, DSt K W.P M al σ H δ ω → PostR K M al σ H δ relT (ft δ ω) Q (NoX W.P) → t σ H Q) → t σ H Q, fun M al σ H δ ω Q S h i t _ ht => ht M al σ H δ ω Q S h, fun i => ?_⟩
  obtain ⟨t, p, q⟩ := (h i).ex
  rw [hK i] at q
  exact ⟨fun pins s σ H Q I hq => p.run pins s σ H Q I (hq i t p q)⟩
theorem fam_g {ι : Type} {Xi : ι → Cx} {tg : Expr} {vs : List Nat} {g : EvG} (hK : ∀ i, (Xi i).K = K) (h : ∀ i, PGd (Xi i) W.P tg vs g) :
    ∃ t, GOk K W.P vs t g ∧ ∀ i, PG (Xi i) tg t := by
  refine ⟨fun v σ H Q => ∀ i t, PG (Xi i) tg t → GOk K W.P vs t g → t v σ H Q, fun M al σ H δ ω v d δ' Q S r hg k i t _ ht => ht M al σ H δ ω v d δ' Q S r hg k, fun i => ?_⟩
  obtain ⟨t, p, q⟩ := (h i).ex
  rw [hK i] at q
  exact ⟨fun pins s σ H v u Q I r hq => p.run pins s σ H v u Q I r (hq i t p q)⟩
/-- a block's own context -/
abbrev Blk (X : Cx) (scope : Scope) (p : Shared × Hp × Addr × List (Str × Addr) × List Addr) : Cx := X.blk p.1 p.2.1 scope (compEnvC scope p.2.2.2.1 p.2.2.1 X.env) p.2.2.2.2
theorem pd_lc {elt tg iter : Expr} {ifs : List Expr} {scope : Scope} {own : List (Str × Nat)} {fi : EvI} {g : EvG} {fe : EvE} (hc : X.calm = true) (hN : X.N.Nodup) (hi : PId X W tg iter fi) (ok : BlkOk X.N X.env.scope scope own)
    (hg : ∀ p, PGd (Blk X scope p) W.P tg (own.map (·.2)) g) (ht : ∀ p, PTsd (Blk X scope p) (NoX W.P) ifs ft) (he : ∀ p, PEd (Blk X scope p) (NoX W.P) elt fe)
    (hs : ∀ x, foldedSetIterable iter X.env x = pure x := by intro _; rfl) : PEd X W (.ListComp elt [⟨tg, iter, ifs, 0⟩] scope pos) (eComp fi g ft fe (own.map (·.2))) := by
  obtain ⟨t1, p1, q1⟩ := hi.ex
  obtain ⟨t2, q2, p2⟩ := fam_g (K := X.K) (Xi := Blk X scope) (fun _ => rfl) hg
  obtain ⟨t3, q3, p3⟩ := fam_ts (K := X.K) (Xi := Blk X scope) (fun _ => rfl) ht
  obtain ⟨t4, q4, p4⟩ := fam_e (K := X.K) (Xi := Blk X scope) (fun _ => rfl) he
  refine ⟨_, pe_lc hc hN p1 ok (fun s H C cl fp => p2 (s, H, C, cl, fp)) (fun s H C cl fp => p3 (s, H, C, cl, fp)) (fun s H C cl fp => p4 (s, H, C, cl, fp)) hs, fun M al σ H δ ω Q S h => ?_⟩
  refine q1 M al σ H δ ω _ S (post_mono (fun J H1 h1 => ?_) (post_bind (rel := fun H1 J ds => ItD X.K M.sa (NA M.N al) J H1 ds) h))
  obtain ⟨ds, ω1, e1, S1, f1, r1, h1⟩ := h1
  exact fun L hL => comp_ok q2 q3 q4 S1 r1 (post_from f1 h1) L hL
/-- y = [..] on one line -/
theorem sd_setLc {i : Nat} {y : Str} {py spos : Pos} {elt tg iter : Expr} {ifs : List Expr} {scope : Scope} {own : List (Str × Nat)} {fi : EvI} {g : EvG} {fe : EvE} (hc : X.calm = true) (hN : X.N.Nodup) (hy : X.N[i]? = some y) (hyl : X.env.scope.names.lookup y = some .local)
    (hsw : swapsWith (.ListComp elt [⟨tg, iter, ifs, 0⟩] scope pos) (some (.Name y py)) spos.line X.env = pure true) (hi : PId X W tg iter fi) (ok : BlkOk X.N X.env.scope scope own)
    (hg : ∀ p, PGd (Blk X scope p) W.P tg (own.map (·.2)) g) (ht : ∀ p, PTsd (Blk X scope p) (NoX W.P) ifs ft) (he : ∀ p, PEd (Blk X scope p) (NoX W.P) elt fe)
    (hs : ∀ x, foldedSetIterable iter X.env x = pure x := by intro _; rfl) : PSd X W (.Assign [.Name y py] (.ListComp elt [⟨tg, iter, ifs, 0⟩] scope pos) spos) (sSet i (eComp fi g ft fe (own.map (·.2)))) := by
  obtain ⟨t1, p1, q1⟩ := hi.ex
  obtain ⟨t2, q2, p2⟩ := fam_g (K := X.K) (Xi := Blk X scope) (fun _ => rfl) hg
  obtain ⟨t3, q3, p3⟩ := fam_ts (K := X.K) (Xi := Blk X scope) (fun _ => rfl) ht
  obtain ⟨t4, q4, p4⟩ := fam_e (K := X.K) (Xi := Blk X scope) (fun _ => rfl) he
  refine ⟨_, ps_setLc hc hN hy hyl hsw p1 ok (fun s H C cl fp => p2 (s, H, C, cl, fp)) (fun s H C cl fp => p3 (s, H, C, cl, fp)) (fun s H C cl fp => p4 (s, H, C, cl, fp)) hs, fun M al σ H δ ω D S h => ?_⟩
  have h' : PostR X.K M al σ H δ (relE X.K M al) (eComp fi g ft fe (own.map (·.2)) δ ω) (fun x H1 => gName i x σ H1 D.nx) W :=
    post_mono (fun x H1 h1 => by
      obtain ⟨d1, ω1, e1, S1, f1, r1, h1⟩ := h1
      exact h1 _ _ H1 (S1.set r1) f1.s AlExt.drop) (posts_bind (rel := relE X.K M al) S.fr h)
  refine q1 M al σ H δ ω _ S (post_mono (fun J H1 h1 => ?_) (post_bind (rel := fun H1 J ds => ItD X.K M.sa (NA M.N al) J H1 ds) h'))
  obtain ⟨ds, ω1, e1, S1, f1, r1, h1⟩ := h1
  exact fun L hL => comp_ok q2 q3 q4 S1 r1 (post_from f1 h1) L hL
/-! ### a list of the def's own -/
theorem DSt.setOwn (S : DSt K P M al σ H δ ω) {i : Nat} {L : Addr} {xs : List V} {ds : List D} (hL : H L = none) (hi : i < δ.length) (hl : xs.length ≤ sizeLine) (r : Reps K M.sa (NA M.N al) H xs ds) :
    DSt K P M (fun j => if j = i then some L else al j) (σ.set i (some (.ref L))) (upd H L (.lst xs)) (δ.set i (.own ds)) ω := by
  have sm := same_upd (o := .lst xs) hL
  have S1 := S.same sm
  have hle : ∀ b, NA M.N (fun j => if j = i then some L else al j) b → Tr H b → NA M.N al b := fun b hb ⟨o, ho, _⟩ => by
    rcases hb with hb | ⟨k, hb⟩
    · exact .inl hb
    · by_cases e : k = i
      · simp only [e, if_pos] at hb
        cases hb
        rw [hL] at ho; cases ho
      · simp only [if_neg e] at hb; exact .inr ⟨k, hb⟩
  have mono1 : ∀ {v : V} {d : D}, Rep K M.sa (NA M.N al) H v d → Rep K M.sa (NA M.N (fun j => if j = i then some L else al j)) (upd H L (.lst xs)) v d := fun r => (r.less hle).mono (Z := fun _ => False) (.same sm) fun _ z => z.elim
  have monoN : ∀ {v : List V} {d : List D}, Reps K M.sa (NA M.N al) H v d → Reps K M.sa (NA M.N (fun j => if j = i then some L else al j)) (upd H L (.lst xs)) v d := fun r => (r.less hle).mono (Z := fun _ => False) (.same sm) fun _ z => z.elim
  refine ⟨S1.pp, S1.zn, S1.gm, S1.g, S1.nt, S1.fr, by rw [List.length_set, List.length_set]; exact S.len, fun j hj => ?_, fun j k a h1 h2 => ?_, fun j a h => ?_⟩
  · rw [List.length_set] at hj
    by_cases e : j = i
    · subst e
      have hs : j < σ.length := by rw [S.len]; exact hj
      rw [List.getElem?_set_self hs, List.getElem?_set_self hj, if_pos rfl]
      exact .own upd_same hl (monoN r)
    · rw [List.getElem?_set_ne (Ne.symm e), List.getElem?_set_ne (Ne.symm e), if_neg e]
      have q := S.sl j hj
      generalize (σ[j]?).getD none = o at q ⊢
      generalize (δ[j]?).getD .emp = x at q ⊢
      generalize al j = w at q ⊢
      cases q with
      | emp => exact .emp
      | val r => exact .val (mono1 r)
      | own h l r => exact .own (sm _ _ h) l (monoN r)
  · have noL : ∀ k, al k ≠ some L := fun k z => by
      obtain ⟨ys, e⟩ := S.own_there z
      rw [hL] at e; cases e
    by_cases e1 : j = i
    · by_cases e2 : k = i
      · rw [e1, e2]
      · simp only [e1, if_pos] at h1
        simp only [if_neg e2] at h2
        rw [← h1] at h2
        exact absurd h2 (noL k)
    · by_cases e2 : k = i
      · simp only [if_neg e1] at h1
        simp only [e2, if_pos] at h2
        rw [← h2] at h1
        exact absurd h1 (noL j)
      · simp only [if_neg e1] at h1
        simp only [if_neg e2] at h2
        exact S.inj j k a h1 h2
  · rw [List.length_set]
    by_cases e1 : j = i
    · simp only [e1, if_pos] at h
      cases h
      exact ⟨fun z => Tr.not hL (S.fr.there L z), fun z => Tr.not hL (S.nt L z), by rw [e1]; exact hi⟩
    · simp only [if_neg e1] at h
      exact S.fresh j a h
/-- x = [..], a list that will be changed -/
def sNew (i : Nat) (fs : EvA) : EvS := fun δ ω => (fs δ ω).bind fun ds ω1 => if ds.length ≤ sizeLine ∧ i < δ.length then .ok (.nx (δ.set i (.own ds))) ω1 else .bad
theorem sd_new {i : Nat} {x : Str} {pos' lp : Pos} (hN : X.N.Nodup) (hi : X.N[i]? = some x) (hx : Loc X.env.scope x) (he : PAd X W es fs) (hs : swapsWith (.List es lp) (some (.Name x pos')) pos.line X.env = pure false := by rfl) (hf : X.fn x = true ∨ X.env.scope.names.lookup x = some .local := by first | exact .inl rfl | exact .inr rfl | assumption) :
    PSd X W (.Assign [.Name x pos'] (.List es lp) pos) (sNew i fs) := by
  obtain ⟨t, p1, q1⟩ := he.ex
  refine ⟨_, ps_set (i := i) hN hi hx (pe_lst p1) hs hf, fun M al σ H δ ω D S h => ?_⟩
  refine q1 M al σ H δ ω _ S (post_mono (fun xs H1 h1 => ?_) (posts_bind (rel := relA X.K M al) S.fr h))
  obtain ⟨ds, ω1, e1, S1, f1, r1, h1⟩ := h1
  split at h1
  · rename_i hl
    have hl2 : xs.length ≤ sizeLine := by rw [r1.len]; exact hl.1
    refine ⟨hl2, fun L hL => h1 _ _ _ (S1.setOwn hL hl.2 hl2 r1) (f1.trans (.same (same_upd hL))).s fun j a q => ?_⟩
    by_cases e : j = i
    · simp only [e, if_pos] at q
      cases q
      exact .inr fun z => Tr.not hL (f1.there L z)
    · simp only [if_neg e] at q; exact .inl ⟨j, q⟩
  · exact h1.elim
/-- the own list in slot i is written -/
theorem DSt.wrOwn (S : DSt K P M al σ H δ ω) {i : Nat} {L : Addr} {xs ys : List V} {es ds : List D} (hi : δ[i]? = some (.own es)) (ha : al i = some L) (hσ : σ[i]? = some (some (.ref L))) (hL : H L = some (.lst xs)) (hl : ys.length ≤ sizeLine) (r : Reps K M.sa (NA M.N al) H ys ds) :
    DSt K P M al σ (upd H L (.lst ys)) (δ.set i (.own ds)) ω ∧ FrS M al H (upd H L (.lst ys)) := by
  obtain ⟨f1, f2, f3⟩ := S.fresh i L ha
  have hZ : ¬ M.Z L := fun z => f2 (S.zn L z)
  have fr : Fr (fun b => M.Z b ∨ b = L) H (upd H L (.lst ys)) := ⟨fun b o e k => by
      by_cases hb : b = L
      · subst hb
        rw [hL] at e; cases e
        exact absurd (.inr rfl) k
      · rw [upd_ne hb]; exact e, fun b ⟨o, e, n⟩ => by
      by_cases hb : b = L
      · subst hb; exact ⟨_, upd_same, trivial⟩
      · exact ⟨o, by rw [upd_ne hb]; exact e, n⟩⟩
  have hz : ∀ b, (M.Z b ∨ b = L) → NA M.N al b := fun b hb => by
    rcases hb with hb | rfl
    · exact .inl (S.zn b hb)
    · exact .inr ⟨i, ha⟩
  refine ⟨⟨S.pp, S.zn, S.gm, S.gm _ _ _ (fun b o e k => ?_) S.g, fun b hb => ?_, ⟨fun b o e k => ?_, fun b e => ?_⟩, by rw [List.length_set]; exact S.len, fun j hj => ?_, S.inj, fun j a h => by rw [List.length_set]; exact S.fresh j a h⟩, fr.wide fun b hb => ?_⟩
  · by_cases hb : b = L
    · subst hb
      rw [hL] at e; cases e
      rcases k with k | k | ⟨ps, k⟩
      · exact absurd k hZ
      · exact absurd trivial k
      · cases k
    · rw [upd_ne hb]; exact e
  · exact fr.there b (S.nt b hb)
  · have hb : b ≠ L := fun z => f1 (z ▸ ⟨o, e, .of_keep k⟩)
    rw [upd_ne hb]
    exact S.fr.keep b o e k
  · exact fr.there b (S.fr.there b e)
  · rw [List.length_set] at hj
    by_cases e : j = i
    · subst e
      rw [List.getElem?_set_self hj, hσ, ha]
      exact .own upd_same hl (r.mono fr hz)
    · rw [List.getElem?_set_ne (Ne.symm e)]
      refine (S.sl j hj).mono fr (fun a ea z => ?_) hz
      rcases z with z | z
      · exact (S.fresh j a ea).2.1 (S.zn a z)
      · rw [z] at ea
        exact e (S.inj j i L ea ha)
  · rcases hb with hb | rfl
    · exact .inl hb
    · exact .inr ⟨i, ha⟩
/-- x.append(e) -/
def sApp (i : Nat) (fa : EvE) : EvS := fun δ ω => match δ[i]? with
  | some (.own ds) => (fa δ ω).bind fun d ω1 => if ds.length < sizeLine then .ok (.nx (δ.set i (.own (ds ++ [d])))) ω1 else .bad
  | _ => .bad
theorem sd_app {i : Nat} {x : Str} {np apos cpos : Pos} (hN : X.N[i]? = some x) (he : PEd X W e fa) (hv : Vis X.env.scope x := by first | exact Or.inl rfl | exact Or.inr (Or.inl rfl) | exact Or.inr (Or.inr rfl)) (hd : (x == ("__debug__" : Str)) = false := by decide) (hcd : (x == ("__classdict__" : Str)) = false := by decide)
    (hbase : attributeBase (.Name x np) "append" X.env (eval (.Name x np) X.env) = eval (.Name x np) X.env := by rfl)
    (hfew : ((backTo cpos (starEach (e :: []) X.env)).all (fun x => !x.1) && (backToKw cpos (keywordEach [] X.env)).all (fun x => x.1.isSome)
      && decide ((e :: []).length + ([] : List Keyword).length + (if ([] : List Keyword).isEmpty then 0 else 1) < 30)) = true := by rfl)
    (hline : (apos.endLine == cpos.line) = true := by rfl) (hs0 : starEach (e :: []) X.env = (false, eval e X.env) :: starEach [] X.env := by rfl) (hplain : (backTo cpos (starEach [] X.env)).any (·.1) = false := by rfl)
    (hs : swapsWith (.Call (.Attribute (.Name x np) "append" apos) [e] [] cpos) none pos.line X.env = pure false := by rfl) :
    PSd X W (.Expr (.Call (.Attribute (.Name x np) "append" apos) [e] [] cpos) pos) (sApp i fa) := by
  obtain ⟨t, p1, q1⟩ := he.ex
  refine ⟨_, ps_expr (pe_bm PySem.F.plainAttrs_list PySem.F.slot_list_append PySem.F.type_list_append mt_append (pe_var (i := i) hN hv hd hcd) (pa_cons p1 pa_nil hs0) hbase hfew hline hs0 hplain) hs, fun M al σ H δ ω D S h => ?_⟩
  unfold sApp at h
  split at h
  · rename_i ds eo
    obtain ⟨L, xs, ha, hσ, hL, hl, r⟩ := S.ownAt eo
    refine ⟨_, hσ, .inl ⟨rfl, _, SqL.of hL⟩, ?_⟩
    refine q1 M al σ H δ ω _ S (post_mono (fun y H1 h1 => ?_) (posts_bind (rel := relE X.K M al) S.fr h))
    obtain ⟨d, ω1, e1, S1, f1, r1, h1⟩ := h1
    split at h1
    · rename_i hlt
      obtain ⟨L', xs1, ha', hσ', hL1, hl1, rs1⟩ := S1.ownAt eo
      have eL : L' = L := Option.some.inj (ha'.symm.trans ha)
      subst eL
      have lt : xs1.length < sizeLine := by rw [rs1.len]; exact hlt
      obtain ⟨S2, f2⟩ := S1.wrOwn (ys := xs1 ++ [y]) eo ha hσ hL1 (by rw [List.length_append, List.length_singleton]; omega) (rs1.app (.cons r1 .nil))
      exact ⟨L', xs1, y, rfl, rfl, hL1, lt, h1 _ _ _ S2 (Fr.trans f1.s f2) AlExt.refl⟩
    · exact h1.elim
  · exact h.elim
/-- from here on the list in slot i is a datum (a ghost's step) -/
theorem DSt.freeze (S : DSt K P M al σ H δ ω) {i : Nat} {ds : List D} (h : δ[i]? = some (.own ds)) : DSt K P M (fun j => if j = i then none else al j) σ H (δ.set i (.val (.lst ds))) ω := by
  obtain ⟨L, xs, ha, hσ, hL, hl, r⟩ := S.ownAt h
  have hi : i < δ.length := (List.getElem?_eq_some_iff.mp h).1
  have hle : ∀ b, NA M.N (fun j => if j = i then none else al j) b → Tr H b → NA M.N al b := fun b hb _ => by
    rcases hb with hb | ⟨k, hb⟩
    · exact .inl hb
    · by_cases e : k = i
      · simp only [e, if_pos] at hb; cases hb
      · simp only [if_neg e] at hb; exact .inr ⟨k, hb⟩
  have nL : ¬ NA M.N (fun j => if j = i then none else al j) L := fun z => by
    rcases z with z | ⟨k, z⟩
    · exact (S.fresh i L ha).2.1 z
    · by_cases e : k = i
      · simp only [e, if_pos] at z; cases z
      · simp only [if_neg e] at z
        exact e (S.inj k i L z ha)
  refine ⟨S.pp, S.zn, S.gm, S.g, S.nt, S.fr, by rw [List.length_set]; exact S.len, fun j hj => ?_, fun j k a h1 h2 => ?_, fun j a h => ?_⟩
  · rw [List.length_set] at hj
    by_cases e : j = i
    · subst e
      rw [List.getElem?_set_self hj, if_pos rfl, hσ]
      exact .val (.lst hL nL hl (r.less hle))
    · rw [List.getElem?_set_ne (Ne.symm e), if_neg e]
      have q := S.sl j hj
      generalize (σ[j]?).getD none = o at q ⊢
      generalize (δ[j]?).getD .emp = x at q ⊢
      generalize al j = w at q ⊢
      cases q with
      | emp => exact .emp
      | val r => exact .val (r.less hle)
      | own h l r => exact .own h l (r.less hle)
  · by_cases e1 : j = i
    · simp only [e1, if_pos] at h1; cases h1
    · by_cases e2 : k = i
      · simp only [e2, if_pos] at h2; cases h2
      · simp only [if_neg e1] at h1
        simp only [if_neg e2] at h2
        exact S.inj j k a h1 h2
  · by_cases e1 : j = i
    · simp only [e1, if_pos] at h; cases h
    · simp only [if_neg e1] at h
      rw [List.length_set]
      exact S.fresh j a h
def frz (i : Nat) (g : EvS) : EvS := fun δ ω => match δ[i]? with
  | some (.own ds) => g (δ.set i (.val (.lst ds))) ω
  | _ => .bad
theorem sd_frz {i : Nat} (h : PSsd X W rest gs) : PSsd X W rest (frz i gs) := by
  obtain ⟨t, p1, q1⟩ := h.ex
  refine ⟨t, p1, fun M al σ H δ ω D S h => ?_⟩
  unfold frz at h
  split at h
  · rename_i ds eo
    exact q1 M _ σ H _ ω D (S.freeze eo) (posts_from (Fr.refl H) AlExt.drop h)
  · exact h.elim
end
end DL

namespace DL
open PySem PySem.Spec PyProof.Rows L2
section
variable {X : Cx} {W : Wt} {K : PySem.W.Frag}
theorem Op2.or {r r' : R2} {g g' : D → D → Option D} (h : Op2 K r g) (h' : Op2 K r' g') : Op2 K (fun x y H Q => r x y H Q ∨ r' x y H Q) (fun a b => (g a b).or (g' a b)) := ⟨fun sa N H x y a b d Q ra rb e nt k => by
  cases q : g a b with
  | some z =>
    rw [q] at e
    exact .inl (h.ok sa N H x y a b d Q ra rb (by rw [q]; exact e) nt k)
  | none =>
    rw [q] at e
    exact .inr (h'.ok sa N H x y a b d Q ra rb e nt k)⟩
/-! ### whole numbers -/
def gII (f : Int → Int → D) : D → D → Option D
  | .int i, .int j => some (f i j)
  | _, _ => none
theorem op2_I0 {g : Int → Int → V} {f : Int → Int → D} (h : ∀ i j sa N H, Rep K sa N H (g i j) (f i j)) : Op2 K (rI0 g) (gII f) := ⟨fun sa N H x y a b d Q ra rb e nt k => by
  unfold gII at e
  split at e
  · cases ra
    cases rb
    cases e
    exact ⟨_, _, rfl, rfl, k _ _ (Same.refl _) (h _ _ _ _ _)⟩
  · cases e⟩
def gIC (C : Int → Int → Prop) [∀ i j, Decidable (C i j)] (f : Int → Int → D) : D → D → Option D
  | .int i, .int j => if C i j then some (f i j) else none
  | _, _ => none
theorem op2_I {C : Int → Int → Prop} [∀ i j, Decidable (C i j)] {g : Int → Int → V} {f : Int → Int → D} (h : ∀ i j sa N H, Rep K sa N H (g i j) (f i j)) : Op2 K (rI C g) (gIC C f) := ⟨fun sa N H x y a b d Q ra rb e nt k => by
  unfold gIC at e
  split at e
  · cases ra
    cases rb
    split at e
    · rename_i hc
      cases e
      exact ⟨_, _, rfl, rfl, hc, k _ _ (Same.refl _) (h _ _ _ _ _)⟩
    · cases e
  · cases e⟩
/-! ### a + b -/
def gAddS : D → D → Option D
  | .str x, .str y => if x.length + y.length ≤ sizeLine then some (.str (x ++ y)) else none
  | _, _ => none
def gAddL : D → D → Option D
  | .lst x, .lst y => if x.length + y.length ≤ sizeLine then some (.lst (x ++ y)) else none
  | _, _ => none
def gAddT : D → D → Option D
  | .tup x, .tup y => if x.length + y.length ≤ sizeLine then some (.tup (x ++ y)) else none
  | _, _ => none
theorem op2_addS : Op2 K (fun x y H Q => ∃ i j, x = .str i ∧ y = .str j ∧ i.length + j.length ≤ sizeLine ∧ Q (.str (i ++ j)) H) gAddS := ⟨fun sa N H x y a b d Q ra rb e nt k => by
  unfold gAddS at e
  split at e
  · cases ra
    cases rb
    split at e
    · rename_i hc
      cases e
      exact ⟨_, _, rfl, rfl, hc, k _ _ (Same.refl _) (.str _)⟩
    · cases e
  · cases e⟩
theorem op2_addL : Op2 K rCat gAddL := ⟨fun sa N H x y a b d Q ra rb e nt k => by
  unfold gAddL at e
  split at e
  · cases ra with
    | lst h1 n1 l1 r1 =>
      cases rb with
      | lst h2 n2 l2 r2 =>
        split at e
        · rename_i hc
          cases e
          rw [← r1.len, ← r2.len] at hc
          exact ⟨_, _, _, _, rfl, rfl, h1, h2, hc, fun p hp => k _ _ (same_upd hp) (new_ok nt hp (by rw [List.length_append]; exact hc) (r1.app r2))⟩
        · cases e
  · cases e⟩
theorem same_reps {sa : Addr} {N : Addr → Prop} {H H' : Hp} {xs : List V} {ds : List D} (s : Same H H') (r : Reps K sa N H xs ds) : Reps K sa N H' xs ds := r.mono (Z := fun _ => False) (.same s) fun _ z => z.elim
theorem same_rep {sa : Addr} {N : Addr → Prop} {H H' : Hp} {x : V} {d : D} (s : Same H H') (r : Rep K sa N H x d) : Rep K sa N H' x d := r.mono (Z := fun _ => False) (.same s) fun _ z => z.elim
theorem op2_addT : Op2 K (rCatA K) gAddT := ⟨fun sa N H x y a b d Q ra rb e nt k => by
  unfold gAddT at e
  split at e
  · cases ra with
    | tup h1 l1 r1 =>
      cases rb with
      | tup h2 l2 r2 =>
        split at e
        · rename_i hc
          cases e
          rw [← r1.len, ← r2.len] at hc
          refine ⟨_, _, _, _, rfl, rfl, h1, h2, hc, fun e0 => ?_, fun e1 e0 => ?_, fun _ _ p hp => k _ _ (same_upd hp) (.tup (SqT.of upd_same) (by rw [List.length_append]; exact hc) (same_reps (same_upd hp) (r1.app r2)))⟩
          · subst e0
            cases r1
            exact k _ _ (Same.refl _) (.tup h2 l2 r2)
          · subst e0
            cases r2
            exact k _ _ (Same.refl _) (by rw [List.append_nil]; exact .tup h1 l1 r1)
        · cases e
  · cases e⟩
/-! ### comparisons -/
def gLe (f : Int → Int → Bool) : D → D → Option D := gII fun i j => .bl (f i j)
/-- == of flat things -/
def dScal : D → Option V
  | .non => some .non
  | .bl b => some (.bl b)
  | .int i => some (.int i)
  | .str x => some (.str x)
  | _ => none
theorem dScal_rep {sa : Addr} {N : Addr → Prop} {H : Hp} {x v : V} {d : D} (r : Rep K sa N H x d) (h : dScal d = some v) : x = v := by
  cases r <;> first | (cases h; rfl) | cases h
def gEqS : D → D → Option D := fun a b => match dScal a, dScal b with
  | some x, some y => if scal x y = true then some (.bl (decide (x = y))) else none
  | _, _ => none
def gNeS : D → D → Option D := fun a b => match dScal a, dScal b with
  | some x, some y => if scal x y = true then some (.bl (!decide (x = y))) else none
  | _, _ => none
theorem op2_eqS : Op2 K rEq gEqS := ⟨fun sa N H x y a b d Q ra rb e nt k => by
  unfold gEqS at e
  split at e
  · rename_i u v hu hv
    cases dScal_rep ra hu
    cases dScal_rep rb hv
    split at e
    · rename_i hc
      cases e
      exact ⟨hc, k _ _ (Same.refl _) (.bl _)⟩
    · cases e
  · cases e⟩
theorem op2_neS : Op2 K rNe gNeS := ⟨fun sa N H x y a b d Q ra rb e nt k => by
  unfold gNeS at e
  split at e
  · rename_i u v hu hv
    cases dScal_rep ra hu
    cases dScal_rep rb hv
    split at e
    · rename_i hc
      cases e
      exact ⟨hc, k _ _ (Same.refl _) (.bl _)⟩
    · cases e
  · cases e⟩
/-- the datum as the library has it -/
def toPy : D → Option PyData
  | .non => some .none
  | .bl b => some (.bool b)
  | .int i => some (.int i)
  | .str x => some (.str x)
  | .lst xs => (toPyL xs).map .list
  | .tup xs => (toPyL xs).map .tuple
  | _ => none
where toPyL : List D → Option (List PyData)
  | [] => some []
  | d :: ds => match toPy d, toPyL ds with
    | some x, some xs => some (x :: xs)
    | _, _ => none
mutual
theorem Rep.dp {sa : Addr} {N : Addr → Prop} {H : Hp} : ∀ {v : V} {d : D} {p : PyData}, Rep K sa N H v d → toPy d = some p → Dp K H v p
  | _, _, _, .non, e => by cases e; exact .non
  | _, _, _, .bl b, e => by cases e; exact .bl b
  | _, _, _, .int i, e => by cases e; exact .int i
  | _, _, _, .str x, e => by cases e; exact .str x
  | _, _, _, .tup (ds := ds) h l r, e => by
    unfold toPy at e
    cases q : toPy.toPyL ds with
    | none => rw [q] at e; cases e
    | some ps =>
      rw [q] at e
      cases e
      exact .tup h (Reps.dp r q)
  | _, _, _, .lst (ds := ds) h n l r, e => by
    unfold toPy at e
    cases q : toPy.toPyL ds with
    | none => rw [q] at e; cases e
    | some ps =>
      rw [q] at e
      cases e
      exact .lst (SqL.of h) (Reps.dp r q)
  | _, _, _, .scr _ _, e => by cases e
  | _, _, _, .scrL _ _ _, e => by cases e
  | _, _, _, .st, e => by cases e
  | _, _, _, .ty _, e => by cases e
  | _, _, _, .glo _, e => by cases e
  | _, _, _, .exc0 _, e => by cases e
  | _, _, _, .exc1 _ _ _, e => by cases e
theorem Reps.dp {sa : Addr} {N : Addr → Prop} {H : Hp} : ∀ {vs : List V} {ds : List D} {ps : List PyData}, Reps K sa N H vs ds → toPy.toPyL ds = some ps → DpAll K H vs ps
  | _, _, _, .nil, e => by cases e; exact .nil
  | _, _, _, .cons (d := d) (ds := ds) r rs, e => by
    unfold toPy.toPyL at e
    cases q1 : toPy d with
    | none => rw [q1] at e; cases e
    | some p =>
      cases q2 : toPy.toPyL ds with
      | none => rw [q1, q2] at e; cases e
      | some ps =>
        rw [q1, q2] at e
        cases e
        exact .cons (Rep.dp r q1) (Reps.dp rs q2)
end
def gEqD (neg : Bool) : D → D → Option D := fun a b => match toPy a, toPy b with
  | some x, some y => if SeqAt.shaped x = true ∧ SeqAt.shaped y = true then some (.bl (if neg then !PyData.eqv x y else PyData.eqv x y)) else none
  | _, _ => none
theorem op2_eqD : Op2 K (rEqD K) (gEqD false) := ⟨fun sa N H x y a b d Q ra rb e nt k => by
  unfold gEqD at e
  split at e
  · rename_i u v hu hv
    split at e
    · rename_i hc
      cases e
      exact ⟨u, v, ra.dp hu, rb.dp hv, hc.1, hc.2, k _ _ (Same.refl _) (.bl _)⟩
    · cases e
  · cases e⟩
theorem op2_neD : Op2 K (rNeD K) (gEqD true) := ⟨fun sa N H x y a b d Q ra rb e nt k => by
  unfold gEqD at e
  split at e
  · rename_i u v hu hv
    split at e
    · rename_i hc
      cases e
      exact ⟨u, v, ra.dp hu, rb.dp hv, hc.1, hc.2, k _ _ (Same.refl _) (.bl _)⟩
    · cases e
  · cases e⟩
/-- x is None, x is not None: of anything -/
def gIsN (neg : Bool) : D → D → Option D := fun a b => match b with
  | .non => some (.bl (match a with | .non => !neg | _ => neg))
  | _ => none
theorem op2_isN : Op2 K (fun x y H Q => y = .non ∧ Q (.bl (decide (x = .non))) H) (gIsN false) := ⟨fun sa N H x y a b d Q ra rb e nt k => by
  unfold gIsN at e
  split at e
  · cases rb
    cases e
    refine ⟨rfl, k _ _ (Same.refl _) ?_⟩
    cases ra <;> exact .bl _
  · cases e⟩
theorem op2_notN : Op2 K (fun x y H Q => y = .non ∧ Q (.bl (!decide (x = .non))) H) (gIsN true) := ⟨fun sa N H x y a b d Q ra rb e nt k => by
  unfold gIsN at e
  split at e
  · cases rb
    cases e
    refine ⟨rfl, k _ _ (Same.refl _) ?_⟩
    cases ra <;> exact .bl _
  · cases e⟩
/-! ### subscripts, slices -/
def gIxT : D → D → Option D
  | .tup ds, .int i => atI ds i
  | _, _ => none
def gIxL : D → D → Option D
  | .lst ds, .int i => atI ds i
  | _, _ => none
def gIxS : D → D → Option D
  | .str z, .int i => if z.length ≤ sizeLine then (atI z.cps.toList i).map fun c => .str ⟨#[c]⟩ else none
  | _, _ => none
theorem atI_reps {sa : Addr} {N : Addr → Prop} {H : Hp} {xs : List V} {ds : List D} {i : Int} {d : D} (r : Reps K sa N H xs ds) (h : atI ds i = some d) : ∃ v, atI xs i = some v ∧ Rep K sa N H v d := by
  unfold atI at h ⊢
  rw [r.len]
  cases e : ixN ds.length i with
  | none => rw [e] at h; cases h
  | some j =>
    rw [e] at h
    exact r.getD h
theorem op2_ixT : Op2 K (rIxT K) gIxT := ⟨fun sa N H x y a b d Q ra rb e nt k => by
  unfold gIxT at e
  split at e
  · cases ra with
    | tup h l r =>
      cases rb
      obtain ⟨v, h1, h2⟩ := atI_reps r e
      exact ⟨_, _, _, v, rfl, rfl, h, h1, k _ _ (Same.refl _) h2⟩
  · cases e⟩
theorem op2_ixL : Op2 K (rIxL K) gIxL := ⟨fun sa N H x y a b d Q ra rb e nt k => by
  unfold gIxL at e
  split at e
  · cases ra with
    | lst h n l r =>
      cases rb
      obtain ⟨v, h1, h2⟩ := atI_reps r e
      exact ⟨_, _, _, v, rfl, rfl, SqL.of h, h1, k _ _ (Same.refl _) h2⟩
  · cases e⟩
theorem op2_ixS : Op2 K rIxS gIxS := ⟨fun sa N H x y a b d Q ra rb e nt k => by
  unfold gIxS at e
  split at e
  · rename_i z i
    cases ra
    cases rb
    split at e
    · rename_i hl
      cases q : atI z.cps.toList i with
      | none => rw [q] at e; cases e
      | some c =>
        rw [q] at e
        cases e
        exact ⟨z, i, c, rfl, rfl, hl, q, k _ _ (Same.refl _) (.str _)⟩
    · cases e
  · cases e⟩
def gIx : D → D → Option D := fun a b => (gIxL a b).or ((gIxT a b).or (gIxS a b))
theorem op2_ix : Op2 K (rIx K) gIx := op2_ixL.or (op2_ixT.or op2_ixS)
/-- a part of a slice -/
abbrev EvO := Sls → Om → Rs (Option Int)
structure POd (X : Cx) (W : Wt) (e : Option Expr) (f : EvO) : Prop where
  ex : ∃ t, PO X e t ∧ ∀ M al σ H δ ω Q, DSt X.K W.P M al σ H δ ω → PostR X.K M al σ H δ (fun _ a b => a = b) (f δ ω) Q W → t σ H Q
def oNone : EvO := fun _ ω => .ok none ω
def oSome (fa : EvE) : EvO := fun δ ω => (fa δ ω).bind fun d ω1 => match d with
  | .int i => .ok (some i) ω1
  | _ => .bad
theorem od_none : POd X W none oNone := ⟨_, po_none, fun M al σ H δ ω Q S h => h none H S (Fr.refl H) rfl⟩
theorem od_some {e : Expr} {fa : EvE} (h : PEd X W e fa) : POd X W (some e) (oSome fa) := by
  obtain ⟨t, p1, q1⟩ := h.ex
  refine ⟨_, po_some p1, fun M al σ H δ ω Q S h => ?_⟩
  refine q1 M al σ H δ ω _ S (post_mono (fun x H1 h1 => ?_) (post_bind (rel := relE X.K M al) h))
  obtain ⟨d1, ω1, e1, S1, f1, r1, h1⟩ := h1
  cases r1 <;> first | exact ⟨_, rfl, h1 _ _ S1 f1 rfl⟩ | exact h1.elim
structure OpS (K : PySem.W.Frag) (r : V → Option Int → Option Int → Hp → VK → Prop) (g : D → Option Int → Option Int → Option D) : Prop where
  ok : ∀ sa N H x a lo hi d Q, Rep K sa N H x a → g a lo hi = some d → (∀ b, N b → Tr H b) → (∀ v H', Same H H' → Rep K sa N H' v d → Q v H') → r x lo hi H Q
theorem OpS.or {r r' : V → Option Int → Option Int → Hp → VK → Prop} {g g' : D → Option Int → Option Int → Option D} (h : OpS K r g) (h' : OpS K r' g') : OpS K (fun x lo hi H Q => r x lo hi H Q ∨ r' x lo hi H Q) (fun a lo hi => (g a lo hi).or (g' a lo hi)) := ⟨fun sa N H x a lo hi d Q ra e nt k => by
  cases q : g a lo hi with
  | some z =>
    rw [q] at e
    exact .inl (h.ok sa N H x a lo hi d Q ra (by rw [q]; exact e) nt k)
  | none =>
    rw [q] at e
    exact .inr (h'.ok sa N H x a lo hi d Q ra e nt k)⟩
def eSl (g : D → Option Int → Option Int → Option D) (fa : EvE) (fl fu : EvO) : EvE := fun δ ω => (fa δ ω).bind fun d ω1 => (fl δ ω1).bind fun lo ω2 => (fu δ ω2).bind fun hi ω3 => rs1 (g d lo hi) ω3
theorem pd_slice {e : Expr} {fa : EvE} {lo hi : Option Expr} {fl fu : EvO} {p2 pos : Pos} {r : V → Option Int → Option Int → Hp → VK → Prop} {g : D → Option Int → Option Int → Option D} (hr : SlR X r) (hg : OpS X.K r g) (he : PEd X W e fa) (hl : POd X W lo fl) (hu : POd X W hi fu) :
    PEd X W (.Subscript e (.Slice lo hi none p2) pos) (eSl g fa fl fu) := by
  obtain ⟨t, p1, q1⟩ := he.ex
  obtain ⟨t2, p2, q2⟩ := hl.ex
  obtain ⟨t3, p3, q3⟩ := hu.ex
  refine ⟨_, pe_slice hr p1 p2 p3, fun M al σ H δ ω Q S h => ?_⟩
  refine q1 M al σ H δ ω _ S (post_mono (fun x H1 h1 => ?_) (post_bind (rel := relE X.K M al) h))
  obtain ⟨d1, ω1, _, S1, f1, r1, h1⟩ := h1
  refine q2 M al σ H1 δ ω1 _ S1 (post_mono (fun y H2 h2 => ?_) (post_bind (rel := fun _ a b => a = b) (post_from f1 h1)))
  obtain ⟨d2, ω2, _, S2, f2, rfl, h2⟩ := h2
  refine q3 M al σ H2 δ ω2 _ S2 (post_mono (fun z H3 h3 => ?_) (post_bind (rel := fun _ a b => a = b) (post_from f2 h2)))
  obtain ⟨d3, ω3, _, S3, f3, rfl, h3⟩ := h3
  unfold rs1 at h3
  split at h3
  · rename_i d e
    exact hg.ok M.sa (NA M.N al) H3 x d1 y z d Q (r1.mono (f2.trans f3) S1.zna) e S3.naT fun v H' s q => h3 v H' (S3.same s) (f3.trans (.same s)) q
  · exact h3.elim
def cutD (ds : List D) (lo hi : Option Int) : List D := (ds.drop (HT.sIx ds.length 0 lo)).take (HT.sIx ds.length ds.length hi - HT.sIx ds.length 0 lo)
theorem cut_reps {sa : Addr} {N : Addr → Prop} {H : Hp} {xs : List V} {ds : List D} (lo hi : Option Int) (r : Reps K sa N H xs ds) : Reps K sa N H (cutV xs lo hi) (cutD ds lo hi) := by
  unfold cutV cutD
  rw [r.len]
  exact (r.drop _).take _
def gSlT : D → Option Int → Option Int → Option D
  | .tup ds, lo, hi => some (.tup (cutD ds lo hi))
  | _, _, _ => none
def gSlL : D → Option Int → Option Int → Option D
  | .lst ds, lo, hi => some (.lst (cutD ds lo hi))
  | _, _, _ => none
def gSlS : D → Option Int → Option Int → Option D
  | .str z, lo, hi => if z.length ≤ sizeLine then some (.str (cutS z lo hi)) else none
  | _, _, _ => none
theorem cutV_whole {xs : List V} {lo hi : Option Int} (h : HT.sIx xs.length 0 lo = 0 ∧ HT.sIx xs.length xs.length hi = xs.length) : cutV xs lo hi = xs := by
  unfold cutV
  rw [h.1, h.2, List.drop_zero, Nat.sub_zero, List.take_length]
theorem ops_slT : OpS K (rSlA K) gSlT := ⟨fun sa N H x a lo hi d Q ra e nt k => by
  unfold gSlT at e
  split at e
  · cases ra with
    | tup h l r =>
      cases e
      have rc := cut_reps lo hi r
      refine ⟨_, _, rfl, h, fun hw => k _ _ (Same.refl _) ?_, fun _ p hp => k _ _ (same_upd hp) (.tup (SqT.of upd_same) (Nat.le_trans (cutV_length _ _ _) l) (same_reps (same_upd hp) rc))⟩
      rw [cutV_whole hw] at rc
      exact .tup h l rc
  · cases e⟩
theorem ops_slL : OpS K (rSlL K) gSlL := ⟨fun sa N H x a lo hi d Q ra e nt k => by
  unfold gSlL at e
  split at e
  · cases ra with
    | lst h n l r =>
      cases e
      exact ⟨_, _, rfl, SqL.of h, fun p hp => k _ _ (same_upd hp) (new_ok nt hp (Nat.le_trans (cutV_length _ _ _) l) (cut_reps lo hi r))⟩
  · cases e⟩
theorem ops_slS : OpS K rSlS gSlS := ⟨fun sa N H x a lo hi d Q ra e nt k => by
  unfold gSlS at e
  split at e
  · cases ra
    split at e
    · rename_i hl
      cases e
      exact ⟨_, rfl, hl, k _ _ (Same.refl _) (.str _)⟩
    · cases e
  · cases e⟩
def gSl : D → Option Int → Option Int → Option D := fun a lo hi => (gSlT a lo hi).or ((gSlL a lo hi).or (gSlS a lo hi))
theorem sl_any : SlR X (fun x lo hi H Q => rSlA X.K x lo hi H Q ∨ rSlL X.K x lo hi H Q ∨ rSlS x lo hi H Q) := sl_tupA.or (sl_list.or sl_str)
theorem ops_sl : OpS K (fun x lo hi H Q => rSlA K x lo hi H Q ∨ rSlL K x lo hi H Q ∨ rSlS x lo hi H Q) gSl := ops_slT.or (ops_slL.or ops_slS)
/-- a + b -/
def gAdd : D → D → Option D := fun a b => (gII (fun i j => .int (i + j)) a b).or ((gAddS a b).or ((gAddL a b).or (gAddT a b)))
abbrev rAddA (K : PySem.W.Frag) : R2 := fun x y H Q => rI0 (fun i j => .int (i + j)) x y H Q ∨ (fun x y H Q => ∃ i j, x = .str i ∧ y = .str j ∧ i.length + j.length ≤ sizeLine ∧ Q (.str (i ++ j)) H) x y H Q ∨ rCat x y H Q ∨ rCatA K x y H Q
theorem op_addA : OpR X (binaryOp .Add) (rAddA X.K) := op_add.or (op_add_str.or (op_cat.or op_catA))
theorem op2_add : Op2 K (rAddA K) gAdd := (op2_I0 fun _ _ _ _ _ => .int _).or (op2_addS.or (op2_addL.or op2_addT))
/-! ### len, tuple, list -/
def gLen : List D → Option D
  | [.str z] => if z.length ≤ sizeLine then some (.int z.length) else none
  | [.tup ds] => some (.int ds.length)
  | [.lst ds] => some (.int ds.length)
  | [.scr ns] => some (.int ns.length)
  | _ => none
theorem Reps.one {sa : Addr} {N : Addr → Prop} {H : Hp} {xs : List V} {d : D} (r : Reps K sa N H xs [d]) : ∃ v, xs = [v] ∧ Rep K sa N H v d := by
  cases r with
  | cons r rs => cases rs; exact ⟨_, rfl, r⟩
theorem opn_len : OpN K (fun xs H Q => ∃ x n, xs = [x] ∧ LenV K x H n ∧ Q (.int n) H) gLen := ⟨fun sa N H xs as d Q r e nt k => by
  unfold gLen at e
  split at e
  · obtain ⟨v, rfl, r1⟩ := r.one
    cases r1
    split at e
    · rename_i hl
      cases e
      exact ⟨_, _, rfl, ⟨hl, rfl⟩, k _ _ (Same.refl _) (.int _)⟩
    · cases e
  · obtain ⟨v, rfl, r1⟩ := r.one
    cases r1 with
    | tup h l r =>
      cases e
      exact ⟨_, _, rfl, .inr ⟨_, h, r.len.symm⟩, k _ _ (Same.refl _) (.int _)⟩
  · obtain ⟨v, rfl, r1⟩ := r.one
    cases r1 with
    | lst h n l r =>
      cases e
      exact ⟨_, _, rfl, .inl ⟨_, SqL.of h, r.len.symm⟩, k _ _ (Same.refl _) (.int _)⟩
  · obtain ⟨v, rfl, r1⟩ := r.one
    cases e
    cases r1 with
    | scr h l => exact ⟨_, _, rfl, .inl ⟨_, h.sq, by rw [List.length_map]⟩, k _ _ (Same.refl _) (.int _)⟩
    | scrL h n l => exact ⟨_, _, rfl, .inl ⟨_, SqL.of h, by rw [List.length_map]⟩, k _ _ (Same.refl _) (.int _)⟩
  · cases e⟩
def gTuple : List D → Option D
  | [.tup ds] => some (.tup ds)
  | [.lst ds] => some (.tup ds)
  | _ => none
theorem opn_tuple : OpN K (fun xs H Q => ∃ p ys, xs = [.ref p] ∧ ((SqL K H p ys ∧ ∀ l, H l = none → Q (.ref l) (upd H l (.tup ys))) ∨ (SqT K H p ys ∧ Q (.ref p) H))) gTuple := ⟨fun sa N H xs as d Q r e nt k => by
  unfold gTuple at e
  split at e
  · obtain ⟨v, rfl, r1⟩ := r.one
    cases r1 with
    | tup h l r =>
      cases e
      exact ⟨_, _, rfl, .inr ⟨h, k _ _ (Same.refl _) (.tup h l r)⟩⟩
  · obtain ⟨v, rfl, r1⟩ := r.one
    cases r1 with
    | lst h n l r =>
      cases e
      exact ⟨_, _, rfl, .inl ⟨SqL.of h, fun p hp => k _ _ (same_upd hp) (.tup (SqT.of upd_same) l (same_reps (same_upd hp) r))⟩⟩
  · cases e⟩
def gList : List D → Option D
  | [.tup ds] => some (.lst ds)
  | [.lst ds] => some (.lst ds)
  | _ => none
theorem opn_list : OpN K (fun xs H Q => ∃ p ys, xs = [.ref p] ∧ (SqL K H p ys ∨ SqT K H p ys) ∧ ∀ l, H l = none → Q (.ref l) (upd H l (.lst ys))) gList := ⟨fun sa N H xs as d Q r e nt k => by
  unfold gList at e
  split at e
  · obtain ⟨v, rfl, r1⟩ := r.one
    cases r1 with
    | tup h l r =>
      cases e
      exact ⟨_, _, rfl, .inr h, fun p hp => k _ _ (same_upd hp) (new_ok nt hp l r)⟩
  · obtain ⟨v, rfl, r1⟩ := r.one
    cases r1 with
    | lst h n l r =>
      cases e
      exact ⟨_, _, rfl, .inl (SqL.of h), fun p hp => k _ _ (same_upd hp) (new_ok nt hp l r)⟩
  · cases e⟩
/-- all([..]), any([..]) of a list of truth values -/
def blsOf : List D → Option (List Bool)
  | [] => some []
  | .bl b :: ds => (blsOf ds).map (b :: ·)
  | _ => none
theorem bls_reps {sa : Addr} {N : Addr → Prop} {H : Hp} : ∀ {xs : List V} {ds : List D} {bs : List Bool}, Reps K sa N H xs ds → blsOf ds = some bs → xs = bs.map V.bl
  | _, _, _, .nil, e => by cases e; rfl
  | _, _, _, .cons (d := .bl b) (ds := ds) r rs, e => by
    unfold blsOf at e
    cases q : blsOf ds with
    | none => rw [q] at e; cases e
    | some bs =>
      rw [q] at e
      cases e
      cases r
      rw [bls_reps rs q]
      rfl
  | _, _, _, .cons (d := .non) r rs, e => by cases e
  | _, _, _, .cons (d := .int _) r rs, e => by cases e
  | _, _, _, .cons (d := .str _) r rs, e => by cases e
  | _, _, _, .cons (d := .tup _) r rs, e => by cases e
  | _, _, _, .cons (d := .lst _) r rs, e => by cases e
  | _, _, _, .cons (d := .scr _) r rs, e => by cases e
  | _, _, _, .cons (d := .st) r rs, e => by cases e
  | _, _, _, .cons (d := .exc _ _) r rs, e => by cases e
  | _, _, _, .cons (d := .ty _) r rs, e => by cases e
  | _, _, _, .cons (d := .glo _) r rs, e => by cases e
def gAll : List D → Option D
  | [.lst ds] => (blsOf ds).map fun bs => .bl (bs.all id)
  | _ => none
def gAny : List D → Option D
  | [.lst ds] => (blsOf ds).map fun bs => .bl (bs.any id)
  | _ => none
theorem opn_all : OpN K (rAll K) gAll := ⟨fun sa N H xs as d Q r e nt k => by
  unfold gAll at e
  split at e
  · rename_i ds
    obtain ⟨v, rfl, r1⟩ := r.one
    cases r1 with
    | lst h n l r =>
      cases q : blsOf ds with
      | none => rw [q] at e; cases e
      | some bs =>
        rw [q] at e
        cases e
        rw [bls_reps r q] at h
        exact ⟨_, bs, rfl, SqL.of h, k _ _ (Same.refl _) (.bl _)⟩
  · cases e⟩
theorem opn_any : OpN K (rAny K) gAny := ⟨fun sa N H xs as d Q r e nt k => by
  unfold gAny at e
  split at e
  · rename_i ds
    obtain ⟨v, rfl, r1⟩ := r.one
    cases r1 with
    | lst h n l r =>
      cases q : blsOf ds with
      | none => rw [q] at e; cases e
      | some bs =>
        rw [q] at e
        cases e
        rw [bls_reps r q] at h
        exact ⟨_, bs, rfl, SqL.of h, k _ _ (Same.refl _) (.bl _)⟩
  · cases e⟩
def intsOf : List D → Option (List Int)
  | [] => some []
  | .int b :: ds => (intsOf ds).map (b :: ·)
  | _ => none
theorem ints_of_reps {sa : Addr} {N : Addr → Prop} {H : Hp} : ∀ {xs : List V} {ds : List D} {bs : List Int}, Reps K sa N H xs ds → intsOf ds = some bs → xs = bs.map V.int
  | _, _, _, .nil, e => by cases e; rfl
  | _, _, _, .cons (d := .int b) (ds := ds) r rs, e => by
    unfold intsOf at e
    cases q : intsOf ds with
    | none => rw [q] at e; cases e
    | some bs =>
      rw [q] at e
      cases e
      cases r
      rw [ints_of_reps rs q]
      rfl
  | _, _, _, .cons (d := .non) r rs, e => by cases e
  | _, _, _, .cons (d := .bl _) r rs, e => by cases e
  | _, _, _, .cons (d := .str _) r rs, e => by cases e
  | _, _, _, .cons (d := .tup _) r rs, e => by cases e
  | _, _, _, .cons (d := .lst _) r rs, e => by cases e
  | _, _, _, .cons (d := .scr _) r rs, e => by cases e
  | _, _, _, .cons (d := .st) r rs, e => by cases e
  | _, _, _, .cons (d := .exc _ _) r rs, e => by cases e
  | _, _, _, .cons (d := .ty _) r rs, e => by cases e
  | _, _, _, .cons (d := .glo _) r rs, e => by cases e
def gSum : List D → Option D
  | [.lst ds] => (intsOf ds).map fun bs => .int bs.sum
  | _ => none
theorem opn_sum : OpN K (rSum K) gSum := ⟨fun sa N H xs as d Q r e nt k => by
  unfold gSum at e
  split at e
  · rename_i ds
    obtain ⟨v, rfl, r1⟩ := r.one
    cases r1 with
    | lst h n l r =>
      cases q : intsOf ds with
      | none => rw [q] at e; cases e
      | some bs =>
        rw [q] at e
        cases e
        rw [ints_of_reps r q] at h
        exact ⟨_, bs, rfl, SqL.of h, k _ _ (Same.refl _) (.int _)⟩
  · cases e⟩
/-! ### isinstance -/
def gIsi : List D → Option D
  | [d, .ty T] => match d with
    | .non => some (.bl (T == "NoneType"))
    | .bl _ => some (.bl (T == "bool" || T == "int"))
    | .int _ => some (.bl (T == "int"))
    | .str _ => some (.bl (T == "str"))
    | .tup _ => some (.bl (T == "tuple"))
    | .lst _ => some (.bl (T == "list"))
    | _ => none
  | _ => none
end
end DL

namespace DL
open PySem PySem.Spec PyProof.Rows L2
section
variable {X : Cx} {W : Wt} {pos : Pos}
/-! ### raise C() -/
theorem pmk_own0 {C : Addr} {x : Str} {p : Pos} (q : PySem.W.excIn X.K C He.veBase "ValueError.__new__" = true) (gC : X.mg x = some (.ref C)) (kC : PySem.W.keepIn X.K (.ref C) = true) (r : Raises X (.ref C)) (hg : Gl X x) (hdb : (x == ("__debug__" : Str)) = false) :
    PMk X (.Call (.Name x p) [] [] pos) (fun _ H Q => Q (.ref C) none H) := fun pins s σ H Q I h => by
  refine wpAny_Call_Name_kw (ld_glob I hg gC ?_ hdb)
  refine PySem.W.callWith_K0 I.kIn kC ?_
  obtain ⟨bm, N, nm, qn, bs, hdct, sn, sub, ab, col, dd, k0, k1, k2, k3, k5, mN, hC, hN, hni, T⟩ := exc_obj I.kIn q
  obtain ⟨h0, g0, d0, t0, o0⟩ := s
  exact wpAny_call_exc_subT PySem.F.excBase_ValueError T hC hN hni (fun h' e hm => mk_of I hm r h (I.hok.gone hm.new)) (Nat.zero_le _)
def sRaise0 (c : Str) : EvS := fun _ ω => .err (c, []) ω
theorem sd_raise0 {x : Str} {p pos2 : Pos} (hc : X.calm = true) (tk : Takes X (fun cls d _ H => W.w cls d H)) (q : PySem.W.excIn X.K (He.ga X.K x) He.veBase "ValueError.__new__" = true) (gC : X.mg x = some (.ref (He.ga X.K x))) (kC : PySem.W.keepIn X.K (.ref (He.ga X.K x)) = true)
    (r : Raises X (.ref (He.ga X.K x))) (hg : Gl X x := by rfl) (hdb : (x == ("__debug__" : Str)) = false := by decide) : PSd X W (.Raise (some (.Call (.Name x p) [] [] pos)) none pos2) (sRaise0 x) := by
  refine ⟨_, ps_raise hc tk (pmk_own0 q gC kC r hg hdb), fun M al σ H δ ω D S h => ?_⟩
  exact h _ _ H S.fr S.g ⟨rfl, .inl ⟨rfl, rfl⟩⟩
/-! ### an exception that is kept behind its suite -/
theorem Inv.keepEx {pins : List (Addr × Obj)} {σ : L2.St} {H : Hp} {s : Shared} {a : Addr} {oe : Obj} {vs : Array Value} {cls : Value} {d : Option Addr} (I : Inv X ((a, oe) :: pins) σ H s) (hx : X.ex = []) (hp : ∀ p ∈ X.pn ++ pins, p.1 ≠ a) (h0 : X.s_0.heap.get? a = none)
    (hc : ∀ x c, X.env.cells.lookup x = some c → c ≠ a) (hz : Zc cls d oe) (hd : oe.data = .fields vs) : Inv X pins σ (upd H a (ExV cls d a)) s := by
  obtain ⟨e, n, ne, nf, dd⟩ := I.pin (a, oe) (List.mem_append_right _ List.mem_cons_self)
  have nx : ∀ b, b ∉ X.ex := fun b hb => by rw [hx] at hb; cases hb
  have up : ∀ b, b ≠ a → upd H a (ExV cls d a) b = H b := fun b hb => upd_ne hb
  have un : ∀ b o, X.s_0.heap.get? b = some o → b ≠ a := fun b o e z => by rw [z, h0] at e; cases e
  have nH : ∀ {b : Addr} {o : HO}, H b = some o → b ≠ a := fun e z => by rw [z, n] at e; cases e
  refine ⟨I.ok, I.os, I.bare, ⟨I.base.keep, I.base.slot, fun b o e1 e2 e3 => ?_, I.base.there, fun b xs e1 => ?_, fun b o u e1 => ?_, fun b ps e1 => ?_⟩, I.loc, I.cell, ?_, fun x c e1 => ?_, fun p hm => ?_, fun b o e1 => ?_, I.len⟩
  · rw [up b (un b o e1)]
    exact I.base.free b o e1 e2 e3
  · have z := I.base.tups b xs e1
    rw [up b (nH z)]
    exact z
  · have z := I.base.frzs b o u e1
    rw [up b (nH z)]
    exact z
  · obtain ⟨m, z⟩ := I.base.tbls b ps e1
    exact ⟨m, by rw [up b (nH z)]; exact z⟩
  · rw [up _ (Ne.symm ne)]
    exact I.free
  · rw [up _ (hc x c e1)]
    exact I.freeC x c e1
  · obtain ⟨q1, q2, q3⟩ := I.pin p (by
      rcases List.mem_append.mp hm with z | z
      · exact List.mem_append_left _ z
      · exact List.mem_append_right _ (List.mem_cons_of_mem _ z))
    exact ⟨q1, by rw [up _ (hp p hm)]; exact q2, q3⟩
  · by_cases hb : b = a
    · subst hb
      rw [upd_same] at e1
      cases e1
      exact ⟨⟨oe, vs, e, hz, hd⟩, ⟨oe, e⟩, fun h1 h2 ⟨o', v', q1, q2⟩ k => ⟨o', v', k _ q1, q2⟩⟩
    · rw [up b hb] at e1
      exact (I.hok b o e1).stay (fun _ _ _ q => q) (fun c q => by rw [up c (nH q)]; exact q) fun c xs q => by rw [up c (nH q)]; exact q
/-- what «except x as n» wishes, if its exception is to be known behind the suite, too -/
def wKeep (K : PySem.W.Frag) (c : Value) (i : Nat) (ts : Addr → Value → Option Addr → TS) (Wo : WX) (D : Ends) : WX := fun cls d σ H => ∃ b, PySem.W.exmOne K cls c = some b ∧
  (b = true → ∀ a, H a = none → ts a cls d ⟨fun σ1 H1 => D.nx (σ1.set i none) (upd H1 a (ExV cls d a)), fun v H1 => D.rt v (upd H1 a (ExV cls d a)), fun σ1 H1 => D.bk (σ1.set i none) (upd H1 a (ExV cls d a)), fun σ1 H1 => D.ct (σ1.set i none) (upd H1 a (ExV cls d a))⟩ (σ.set i (some (.ref a))) H) ∧
  (b = false → Wo cls d σ H)
theorem ps_try_keep {x n : Str} {c : Value} {i : Nat} {body suite : List Stmt} {st0 : Stmt} {np pe : Pos} {tb : WX → TS} {ts : Addr → Value → Option Addr → TS} {Wo : WX} (hs : X.stack = X.env :: X.outer) (hf : X.env.frame = some X.env.locals) (hex : X.ex = []) (hN : X.N.Nodup) (hi : X.N[i]? = some n) (hln : X.env.kindOf n = some .local)
    (hc : Names X x c) (tk : Takes X Wo) (hb : ∀ (W : WX) (pn : List (Addr × Obj)) (xe : Value → Shared → Prop), Takes (X.tr pn xe) W → PassesOwn (model X.prog X.w) X.A X.env xe → PSs (X.tr pn xe) body (tb W))
    (hsu : ∀ (a : Addr) (oe : Obj) (cls : Value) (d : Option Addr) (pn : List (Addr × Obj)), Zc cls d oe → (∃ vs, oe.data = .fields vs) → PSs (X.suite a ((a, oe) :: pn)) (st0 :: suite) (ts a cls d)) :
    PS X (.Try body [.ExceptHandler (some (.Name x np)) (some n) (st0 :: suite) pe] [] [] pos) (fun D σ H => tb (wKeep X.K c i ts Wo D) D σ H) := by
  refine ⟨fun ps s0 σ0 H0 D I0 hw => ?_⟩
  have okX := I0.ok
  have frX : X.A.frames = some (X.env :: X.outer) := okX.frames.trans (congrArg some hs)
  -- behind the body
  have good : ∀ f s1, SP (X.tr (X.pn ++ ps) (fun e s₁ => wpAny (model X.prog X.w) X.A (noteFrame e X.env) (fun _ s₂ => wpAny (model X.prog X.w) X.A (setFlight e none) (fun _ s₃ =>
      wpAny (model X.prog X.w) X.A (handleBy e X.env [.ExceptHandler (some (.Name x np)) (some n) (st0 :: suite) pe]) (SP X ps D) X.xe s₃) X.xe s₂) X.xe s₁)) [] D f s1 → (match f with | .next => wpAny (model X.prog X.w) X.A (execs [] X.env) (SP X ps D) X.xe s1 | fl => SP X ps D fl s1) := fun f s1 q => by
    cases f with
    | next => obtain ⟨σ1, H1, J1, q⟩ := q; exact wpAny_execs_nil ⟨σ1, H1, J1.ofTry okX, q⟩
    | brk => obtain ⟨σ1, H1, J1, q⟩ := q; exact ⟨σ1, H1, J1.ofTry okX, q⟩
    | cont => obtain ⟨σ1, H1, J1, q⟩ := q; exact ⟨σ1, H1, J1.ofTry okX, q⟩
    | ret u => obtain ⟨v, σ1, H1, J1, r, q⟩ := q; exact ⟨v, σ1, H1, J1.ofTry okX, r, q⟩
  refine wpAny_Try_except (wpAny_mono ((hb (wKeep X.K c i ts Wo D) (X.pn ++ ps) _ (fun u s1 ax => ?_) PassesOwn.looking).run [] s0 σ0 H0 D (I0.toTry _) hw) (fun f s1 q => ?_) fun _ _ z => z)
  case refine_2 =>
    have z := good f s1 q
    cases f <;> exact z
  -- an exception has come
  obtain ⟨a, B, sI, qs, σ1, H1, cls, d, rfl, JT, nb, up, sky, na, os, ag, b, eb, yes, no⟩ := ax
  have J : Inv X ps σ1 H1 sI := JT.ofTry okX
  rw [show (X.tr (X.pn ++ ps) _).stack = X.env :: X.outer from hs] at sky nb
  show wpAny (model X.prog X.w) X.A (noteFrame (.ref a) X.env) _ _ s1
  refine Sky.land Zc.steady frX hf sky fun g1 fly1 u1 => ?_
  have nbX : ∀ b o, sI.heap.get? b = some o → b ∉ frs X.stack → B.get? b = some o := by rw [hs]; exact nb
  have J1 : Inv X ps σ1 H1 { s1 with heap := g1 } := J.landed nbX fly1.1 (up.trans u1) os ag
  obtain ⟨ob1, vs1, he1, hz1, hd1⟩ := fly1.there
  have out : a ∉ frs (X.env :: X.outer) := fun hm => by
    obtain ⟨_, o', e', hn⟩ := fly1.2.2.1.mem hm
    rw [he1] at e'
    cases e'
    exact hn _ hd1
  have aL : a ≠ X.env.locals := fun z => out (List.mem_filterMap.mpr ⟨X.env, List.mem_cons_self, by rw [hf, z]⟩)
  have aF : a ∉ X.fs := fun hm => by
    obtain ⟨ev, h1, h2⟩ := List.mem_filterMap.mp hm
    exact out (List.mem_filterMap.mpr ⟨ev, List.mem_cons_of_mem _ h1, h2⟩)
  -- it is new to the def
  have newI : sI.heap.get? a = none := by
    cases q : sI.heap.get? a with
    | none => rfl
    | some o =>
      have z := nb a o q out
      rw [fly1.2.1] at z
      cases z
  have new0 : X.s_0.heap.get? a = none := by
    cases q : X.s_0.heap.get? a with
    | none => rfl
    | some o =>
      obtain ⟨o', z⟩ := J.base.there a o q (by rw [hex]; exact fun z => nomatch z)
      rw [newI] at z
      cases z
  have pinA : ∀ p ∈ X.pn ++ ps, p.1 ≠ a := fun p hp z => by
    have q := (J.pin p hp).1
    rw [z, newI] at q
    cases q
  have cellA : ∀ y k, X.env.cells.lookup y = some k → k ≠ a := fun y k e z => by
    obtain ⟨_, o, q, _⟩ := J.cell y k e
    rw [z, newI] at q
    cases q
  have T1 := J1.suite he1 hd1 na aL aF
  refine wpAny_handleBy_cons (codeAny_handlers_test ?_) (by intro q; cases q)
  have tyA : PySem.W.Looks (model X.prog X.w) g1 (typeOf (.ref a)) cls := fun _ _ _ _ k q => wpAny_typeOf_ref (k _ _ he1) (by rw [hz1.1]; exact q)
  have mat := PySem.W.exm_one (M := model X.prog X.w) (J1.kIn) tyA eb
  have named : ∀ {Q E : Value → Shared → Prop}, Q c { s1 with heap := g1 } → wpAny (model X.prog X.w) (X.A.mark (some (.ref a))) (eval (.Name x np) X.env) Q E { s1 with heap := g1 } := fun q => by
    rcases hc with ⟨gl, dbg, m | ⟨m, v, nn⟩⟩
    · exact ld_glob (X := X.suite a ((a, ob1) :: (X.pn ++ ps))) T1 gl m q dbg
    · exact ld_blt (X := X.suite a ((a, ob1) :: (X.pn ++ ps))) T1 gl m v q nn dbg
  refine named (mat.here ?_)
  cases b with
  | true =>
    refine codeAny_handlers_suite_as (HandSPX.lands_againZ fly1 fun g2 fly2 u2 => ?_)
    have J2 : Inv X ps σ1 H1 { s1 with heap := g2 } := J.landed nbX fly2.1 ((up.trans u1).trans u2) os ag
    obtain ⟨ob2, vs2, he2, hz2, hd2⟩ := fly2.there
    refine store_ok (X := X.suite a ((a, ob2) :: (X.pn ++ ps))) (v := .ref a) (J2.suite he2 hd2 na aL aF) hN hi (Or.inl hln) rfl (fun s3 T3 => ?_) (.inr hln)
    refine wpAny_mono ((hsu a ob2 cls d (X.pn ++ ps) hz2 ⟨_, hd2⟩).run [] s3 _ H1 _ T3 (yes rfl a na)) (fun f s4 q => ?_) fun _ _ z => z.elim
    have fin : ∀ {σ4 : L2.St} {H4 : Hp} {Q : Shared → Prop}, Inv (X.suite a ((a, ob2) :: (X.pn ++ ps))) [] σ4 H4 s4 → (∀ s5, Inv X ps (σ4.set i none) (upd H4 a (ExV cls d a)) s5 → Q s5) →
        wpAny (model X.prog X.w) X.A (do bindName X.env n .none; unbindBehindTheSuite X.env n pe) (fun _ s5 => Q s5) X.xe s4 := fun {σ4 H4 Q} T4 hq => by
      have J4 : Inv X ((a, ob2) :: ps) σ4 H4 s4 := ⟨okX, T4.os, T4.bare, T4.base, T4.loc, T4.cell, T4.free, T4.freeC, fun p hp => T4.pin p (by
        rcases List.mem_append.mp hp with z | z
        · exact List.mem_append_left _ (List.mem_cons_of_mem _ (List.mem_append_left _ z))
        · rcases List.mem_cons.mp z with z | z
          · rw [z]; exact List.mem_append_left _ List.mem_cons_self
          · exact List.mem_append_left _ (List.mem_cons_of_mem _ (List.mem_append_right _ z))), T4.hok, T4.len⟩
      exact gone_ok J4 hN hi hln fun s5 J5 => hq s5 (Inv.keepEx J5 hex pinA new0 cellA hz2 hd2)
    cases f with
    | next => obtain ⟨σ4, H4, T4, q⟩ := q; exact fin T4 fun s5 J5 => ⟨_, _, J5, q⟩
    | brk => obtain ⟨σ4, H4, T4, q⟩ := q; exact fin T4 fun s5 J5 => ⟨_, _, J5, q⟩
    | cont => obtain ⟨σ4, H4, T4, q⟩ := q; exact fin T4 fun s5 J5 => ⟨_, _, J5, q⟩
    | ret u => obtain ⟨v, σ4, H4, T4, r, q⟩ := q; exact fin T4 fun s5 J5 => ⟨_, _, _, J5, r, q⟩
  | false =>
    show wpAny _ X.A (handleBy (.ref a) X.env []) _ _ _
    refine wpAny_handleBy_nil ?_
    obtain ⟨_, _, _, oe, vs, T, _, _, he, _, hd, h1, _⟩ := id fly1
    unfold PySem.passOn
    refine wpAny_bind (wpAny_field he hd h1 ?_)
    rw [if_neg (show ¬ ((Value.ref T == Value.none) = true) from by simp)]
    have go : wpAny (model X.prog X.w) X.A (setFlight (.ref a) X.env.frame) (fun _ s4 => wpAny (model X.prog X.w) X.A (throw (.ref a) : Sem Flow) (SP X ps D) X.xe s4) X.xe { s1 with heap := g1 } := by
      rw [hf]
      refine HandSPX.setFlight_upZ fly1 fun g2 hold u2 => wpAny_throw (tk _ _ ⟨a, B, sI, ps, σ1, H1, cls, d, rfl, J, nbX, (up.trans u1).trans u2, .inr (.inr (by rw [hs]; exact hold)), na, os, ag, no rfl⟩)
    first
      | exact wpAny_bind (wpAny_pure (wpAny_bind go))
      | exact wpAny_bind go
end
end DL

namespace DL
open PySem PySem.Spec PyProof.Rows L2 LamX
section
variable {X : Cx} {W : Wt} {pos : Pos} {K : PySem.W.Frag}
/-! ### the def that calls what it got and hands back the error of the package -/
def cgScope : Scope := { kind := .function, names := [("work", .local), ("caught", .local), ("error", .local), ("LeafError", .globalImplicit)], isGenerator := false, isCoroutine := false, more := [] }
def cgBody (p1 p2 p3 p4 p5 p6 p7 p8 p9 p10 p11 p12 p13 p14 : Pos) (k : Nat) : List Stmt :=
  [.Assign [.Name "caught" p1] (.Constant .none k p2) p3, .Try [.Expr (.Call (.Name "work" p4) [] [] p5) p6] [.ExceptHandler (some (.Name "LeafError" p7)) (some "error") [.Assign [.Name "caught" p8] (.Name "error" p9) p10] p11] [] [] p12, .Return (some (.Name "caught" p13)) p14]
abbrev cgNames : List Str := ["work", "caught", "error"]
theorem cgSc : FnScope cgNames ["work"] cgScope := ⟨rfl, rfl, rfl, by decide +kernel, rfl, by decide +kernel, by decide +kernel⟩
/-- told: None, or the error -/
def TTc (K : PySem.W.Frag) (CS : Addr) : (XK → Hp → VK → Prop) → Hp → VK → Prop := fun tl H Q =>
  ∀ Q' : VK, (∀ v H', Q .non H' → Q' v H') → tl (fun cls d H' => ∃ b, PySem.W.exmOne K cls (.ref CS) = some b ∧ (b = true → ∀ a, H' a = none → Q (.ref a) (upd H' a (ExV cls d a))) ∧ (b = false → False)) H Q' 
theorem takes_len {W' : WX} (tk : Takes X W') : Takes X (fun cls d σ H => σ.length = X.N.length → W' cls d σ H) := fun u s' ⟨a, B, sI, ps, σ, H, cls, d, e, I, nb, up, sky, na, os, ag, w⟩ => tk u s' ⟨a, B, sI, ps, σ, H, cls, d, e, I, nb, up, sky, na, os, ag, w I.len⟩
theorem caught_gives {q : Str} {g CS : Addr} {cdg : Value} {k : Nat} {p1 p2 p3 p4 p5 p6 p7 p8 p9 p10 p11 p12 p13 p14 : Pos} (hm : X.mg "LeafError" = some (.ref CS)) (hl : (p8.line == p10.line) = true := by rfl) :
    GivesTo X cgNames "_law_caught" cgScope g cdg (cgBody p1 p2 p3 p4 p5 p6 p7 p8 p9 p10 p11 p12 p13 p14 k) "work" q (TTc X.K CS) := by
  intro f c' s H Q tl act hc h
  refine ⟨_, pss_cons (ps_set (i := 1) cgSc.nd rfl (Or.inl rfl) pe_non) (pss_cons (ps_try_keep (c := .ref CS) (i := 2) (ts := fun _ _ _ => tAsg (tVar 2) (gName 1)) (Wo := fun _ _ _ _ => False)
      (tb := fun W' D σ H1 => ∃ Ex : XK, (∀ cls d (σ' : L2.St) H', σ'.length = 3 → Ex cls d H' → W' cls d σ' H') ∧ σ[0]? = some (some (.ref f)) ∧ H1 c' = some (CodeO c' q) ∧ tl Ex H1 (fun _ H2 => D.nx σ H2))
      rfl rfl rfl cgSc.nd rfl rfl ⟨rfl, by decide, .inl hm⟩ LamX.takes0 (fun W' pn xe tk _ => ?_) (fun a oe cls d pn _ _ => pss_one (ps_set (i := 1) cgSc.nd rfl (Or.inl rfl) (pv 2)))) (pss_one (ps_ret (pv 1)))), ?_⟩
  · refine ⟨fun pins s1 σ1 H1 D I1 h1 => ?_⟩
    obtain ⟨Ex, hW, h2, h3, h4⟩ := h1
    have hp := act (fun cls d σ H => σ.length = 3 → W' cls d σ H) pn xe Ex p4 p5 (takes_len tk) fun cls d σ' H' e hlen => hW cls d σ' H' hlen e
    exact (pss_one (ps_expr (pos := p6) hp)).run pins s1 σ1 H1 D I1 ⟨h2, h3, h4⟩
  · refine ⟨_, fun cls d σ' H' hlen hx => ?_, rfl, hc, h _ fun v H' q => ⟨.non, rfl, q⟩⟩
    obtain ⟨b, e1, e2, e3⟩ := hx
    refine ⟨b, e1, fun eb a na => ?_, fun eb => e3 eb⟩
    have l2 : (2 : Nat) < σ'.length := by omega
    refine ⟨.ref a, List.getElem?_set_self l2, ?_⟩
    refine ⟨.ref a, ?_, e2 eb a na⟩
    rw [List.getElem?_set_ne (by decide), List.getElem?_set_self (by rw [List.length_set]; omega)]
theorem fam_w {ι : Type} {Xi : ι → Cx} {e : Expr} {fe : EvE} (hK : ∀ i, (Xi i).K = K) (h : ∀ i, PEd (Xi i) W e fe) :
    ∃ t, (∀ M al σ H δ ω Q, DSt K W.P M al σ H δ ω → PostR K M al σ H δ (relE K M al) (fe δ ω) Q W → t σ H Q) ∧ ∀ i, PE (Xi i) e t := by
  refine ⟨fun σ H Q => ∀ i t, PE (Xi i) e t → (∀ M al σ H δ ω Q, DSt K W.P M al σ H δ ω → PostR K M al σ H δ (relE K M al) (fe δ ω) Q W → t σ H Q) → t σ H Q, fun M al σ H δ ω Q S h i t _ ht => ht M al σ H δ ω Q S h, fun i => ?_⟩
  obtain ⟨t, p, q⟩ := (h i).ex
  rw [hK i] at q
  exact ⟨fun ps s0 σ0 H0 Q0 I0 hq => p.run ps s0 σ0 H0 Q0 I0 (hq i t p q)⟩
/-- what a lambda's call hands back: None, or the error -/
def eCaught (isx : Str → Bool) (fe : EvE) : EvE := fun δ ω => match fe δ ω with
  | .ok _ ω1 => .ok .non ω1
  | .err x ω1 => if isx x.1 = true ∧ x.2.length ≤ 1 then .ok (.exc x.1 x.2) ω1 else .bad
  | .bad => .bad
theorem extN_fr {Z : Addr → Prop} {H H1 : Hp} (e : ExtN H H1) : Fr Z H H1 := ⟨fun b o h k => e b o h fun ps z => by rw [z] at k; exact k, fun b ⟨o, h, n⟩ => ⟨o, e b o h (fun ps z => by rw [z] at n; exact n), n⟩⟩
theorem pd_caught {T : List (Addr × Str)} {g c P CS : Addr} {k : Nat} {pg : Arguments} {dV kV doc pm cdv ct oc : Value} {an od : Option Addr} {osl : Array (Option Value)} {isx : Str → Bool}
    {params : Arguments} {body : Expr} {scope : Scope} {fe : EvE} {p lpos : Pos} {p1 p2 p3 p4 p5 p6 p7 p8 p9 p10 p11 p12 p13 p14 : Pos} {kk : Nat} (hm : X.mg "_law_caught" = some (.ref g)) (hk : PySem.W.keepIn X.K (.ref g) = true)
    (lk : X.K.lookup g = some ⟨oc, od, .func (PySem.W.fnOf "_law_caught" "_law_caught" pg (cgBody p1 p2 p3 p4 p5 p6 p7 p8 p9 p10 p11 p12 p13 p14 kk) cgScope dV kV doc pm an cdv ct), osl⟩) (hcg : PySem.W.codeIn X.K cdv "_law_caught" = true)
    (hb : L2.Binds X.K (PySem.W.fnOf "_law_caught" "_law_caught" pg (cgBody p1 p2 p3 p4 p5 p6 p7 p8 p9 p10 p11 p12 p13 p14 kk) cgScope dV kV doc pm an cdv ct) ["work"] []) (hL : X.mg "LeafError" = some (.ref CS))
    (hx : ∀ c, isx c = true → PySem.W.exmOne X.K (.ref (He.ga X.K c)) (.ref CS) = some true)
    (TB : TabB X.base X.mg c P) (hcode : X.env.code = .ref c) (hmT : (P, X.env.qual ++ "<lambda>") ∈ T) (hu : ∀ p ∈ T, p.1 = P → p.2 = X.env.qual ++ "<lambda>") (hr : Room (k + 2) X.A) (L : LamS X.env.scope scope)
    (hP : ∀ sa Z G, W.P sa Z G → (∀ ω H, G ω H → Tabs T H) ∧ ∀ ω H H1, G ω H → ExtN H H1 → Tabs T H1 → G ω H1)
    (hbody : ∀ (A : Around) (outer : List Env) (s : Shared) (H : Hp) (E : XK) (f c' : Addr), Room k (A.deeper (lamEnv X scope s.heap.objs.size f c')) → Takes (lamCx X A outer s H E scope f c') (fun cls d _ H => E cls d H) → PEd (lamCx X A outer s H E scope f c') ⟨E, W.P⟩ body fe)
    (hg : Gl X "_law_caught" := by rfl) (hdef : defaultsOf params X.env = ([], []) := by rfl) (hbind : ∀ (q : Str) (cl : List (Str × Addr)) (pm cv ctv : Value), bindArgs (PySem.W.kla_fn "<lambda>" q params body scope cl pm cv ctv) ⟨[], []⟩ = pure [] := by exact fun _ _ _ _ _ => rfl) (hl : (p8.line == p10.line) = true := by rfl) :
    PEd X W (.Call (.Name "_law_caught" p) [.Lambda params body scope lpos] [] pos) (eCaught isx fe) := by
  have fam : ∀ E : XK, ∃ t, (∀ M al σ H δ ω Q, DSt X.K W.P M al σ H δ ω → PostR X.K M al σ H δ (relE X.K M al) (fe δ ω) Q ⟨E, W.P⟩ → t σ H Q) ∧
      ∀ i : { z : Around × List Env × Shared × Hp × Addr × Addr // Room k (z.1.deeper (lamEnv X scope z.2.2.1.heap.objs.size z.2.2.2.2.1 z.2.2.2.2.2)) }, PE (lamCx X i.1.1 i.1.2.1 i.1.2.2.1 i.1.2.2.2.1 E scope i.1.2.2.2.2.1 i.1.2.2.2.2.2) body t := fun E =>
    fam_w (W := ⟨E, W.P⟩) (Xi := fun i : { z : Around × List Env × Shared × Hp × Addr × Addr // Room k (z.1.deeper (lamEnv X scope z.2.2.1.heap.objs.size z.2.2.2.2.1 z.2.2.2.2.2)) } => lamCx X i.1.1 i.1.2.1 i.1.2.2.1 i.1.2.2.2.1 E scope i.1.2.2.2.2.1 i.1.2.2.2.2.2) (fun _ => rfl) fun i => hbody _ _ _ _ _ _ _ i.2 (takes_of rfl rfl rfl rfl)
  obtain ⟨t, ht⟩ := Classical.axiomOfChoice fam
  refine ⟨_, pe_lamcall (t := t) (Ng := cgNames) hg hm hk lk hcg hb cgSc rfl (Or.inl rfl) (caught_gives hL hl) TB hcode hmT hu hr L hdef hbind (fun A outer s H E f c' hr' => (ht E).2 ⟨(A, outer, s, H, f, c'), hr'⟩), fun M al σ H δ ω Q S h => ?_⟩
  obtain ⟨h1, h2⟩ := hP _ _ _ S.pp
  refine ⟨h1 ω H S.g, fun H1 eN T1 Q' hQ => ?_⟩
  have fr : Fr M.Z H H1 := extN_fr eN
  have S1 : DSt X.K W.P M al σ H1 δ ω := S.go fr (h2 ω H H1 S.g eN T1)
  refine (ht _).1 M al σ H1 δ ω Q' S1 ?_
  unfold eCaught at h
  cases e : fe δ ω with
  | ok d ω1 =>
    rw [e] at h
    exact fun v H' S2 f2 r2 => hQ v H' (h .non H' S2 (fr.trans f2) .non)
  | err x ω1 =>
    rw [e] at h
    dsimp only at h
    split at h
    · rename_i hc
      refine fun cls dd H' f2 g2 xr => ?_
      obtain ⟨rfl, xr⟩ := xr
      refine ⟨true, hx _ hc.1, fun _ a na => ?_, fun z => (by cases z)⟩
      have sm := same_upd (o := ExV (.ref (He.ga X.K x.1)) dd a) na
      have S3 : DSt X.K W.P M al σ (upd H' a (ExV (.ref (He.ga X.K x.1)) dd a)) δ ω1 := (S1.go f2 g2).same sm
      refine h _ _ S3 ((fr.trans f2).trans (.same sm)) ?_
      rcases xr with ⟨e1, rfl⟩ | ⟨f, d, b, v, e1, rfl, e3, r⟩
      · rw [e1]
        exact .exc0 upd_same
      · rw [e1]
        exact .exc1 upd_same (sm _ _ e3) (same_rep sm r)
    · exact h.elim
  | bad =>
    rw [e] at h
    exact h
end
end DL

namespace DL
open PySem PySem.Spec PyProof.Rows L2 LamX
/-! ### the source of draws -/
abbrev kGreat : Key := .inr "great"
abbrev kCells : Key := .inr "cells"
abbrev kLeft : Key := .inr "left"
abbrev kTurn : Key := .inr "turn"
def dkv (ga ca : Addr) (ω : Om) : List (Key × V) := [(kGreat, .ref ga), (kCells, .ref ca), (kLeft, .int ω.left), (kTurn, .int ω.turn)]
structure DrawG (sa ga ca : Addr) (ω : Om) (H : Hp) : Prop where
  d : H sa = some (.dK (dkv ga ca ω))
  g : H ga = some (.lst (ω.great.map V.int))
  c : H ca = some (.lst (ω.cells.map V.int))
  gc : ga ≠ ca
  gl : ω.great.length ≤ sizeLine
  cl : ω.cells.length ≤ sizeLine
/-- the places of the draws, and the tables T of code objects -/
def PD (T : List (Addr × Str)) : PP := fun sa Z G => ∃ ga ca, Z = (fun b => b = sa ∨ b = ga ∨ b = ca) ∧ G = fun ω H => DrawG sa ga ca ω H ∧ Tabs T H
section
variable {sa ga ca : Addr} {ω : Om} {H H' : Hp} {T : List (Addr × Str)}
theorem DrawG.sg (d : DrawG sa ga ca ω H) : sa ≠ ga := fun e => by
  have h1 := d.d
  rw [e, d.g] at h1
  cases h1
theorem DrawG.sc (d : DrawG sa ga ca ω H) : sa ≠ ca := fun e => by
  have h1 := d.d
  rw [e, d.c] at h1
  cases h1
theorem DrawG.ext (d : DrawG sa ga ca ω H) (h1 : H' sa = H sa) (h2 : H' ga = H ga) (h3 : H' ca = H ca) : DrawG sa ga ca ω H' :=
  ⟨by rw [h1]; exact d.d, by rw [h2]; exact d.g, by rw [h3]; exact d.c, d.gc, d.gl, d.cl⟩
theorem Tabs.of_keep (t : Tabs T H) (h : ∀ b o, H b = some o → (keepO (fun _ => True) b o ∨ ∃ ps, o = .tbl ps) → H' b = some o) : Tabs T H' := by
  intro p hp
  obtain ⟨ps, h1, h2, h3⟩ := t p hp
  refine ⟨ps, h _ _ h1 (.inr ⟨_, rfl⟩), h2, fun pos cv e => ?_⟩
  obtain ⟨c, e1, e2⟩ := h3 pos cv e
  exact ⟨c, e1, h _ _ e2 (.inl trivial)⟩
theorem PD.gm : GM (fun b => b = sa ∨ b = ga ∨ b = ca) (fun ω H => DrawG sa ga ca ω H ∧ Tabs T H) := fun ω H H' k ⟨d, t⟩ => by
  refine ⟨⟨k _ _ d.d (.inl (.inl rfl)), k _ _ d.g (.inl (.inr (.inl rfl))), k _ _ d.c (.inl (.inr (.inr rfl))), d.gc, d.gl, d.cl⟩, Tabs.of_keep t fun b o e ko => k _ _ e (.inr ko)⟩
theorem PD.tabs {Z : Addr → Prop} {G : Om → Hp → Prop} (h : PD T sa Z G) : (∀ ω H, G ω H → Tabs T H) ∧ ∀ ω H H1, G ω H → ExtN H H1 → Tabs T H1 → G ω H1 := by
  obtain ⟨ga, ca, rfl, rfl⟩ := h
  refine ⟨fun ω H h => h.2, fun ω H H1 h e t => ⟨⟨?_, ?_, ?_, h.1.gc, h.1.gl, h.1.cl⟩, t⟩⟩
  · exact e _ _ h.1.d fun ps z => by cases z
  · exact e _ _ h.1.g fun ps z => by cases z
  · exact e _ _ h.1.c fun ps z => by cases z
end
section
variable {X : Cx} {E : XK} {T : List (Addr × Str)} {pos : Pos} {e : Expr} {fa : EvE}
abbrev WD (E : XK) (T : List (Addr × Str)) : Wt := ⟨E, PD T⟩
variable {M : Fm} {al : Nat → Option Addr} {σ : L2.St} {H : Hp} {δ : Sls} {ω : Om}
theorem DSt.dg (S : DSt X.K (WD E T).P M al σ H δ ω) : ∃ ga ca, M.Z = (fun b => b = M.sa ∨ b = ga ∨ b = ca) ∧ M.G = (fun ω H => DrawG M.sa ga ca ω H ∧ Tabs T H) ∧ DrawG M.sa ga ca ω H ∧ Tabs T H := by
  obtain ⟨ga, ca, hz, hg⟩ := S.pp
  have g := S.g
  rw [hg] at g
  exact ⟨ga, ca, hz, hg, g.1, g.2⟩
/-- one of the state's objects is written -/
theorem fr_put {Z : Addr → Prop} {b : Addr} {o o' : HO} (hb : Z b) (h : H b = some o) (ho : ¬ keepO Z b o) (hn : NT o') : Fr Z H (upd H b o') := ⟨fun c x e k => by
    by_cases hc : c = b
    · subst hc
      rw [h] at e; cases e
      exact absurd k ho
    · rw [upd_ne hc]; exact e, fun c ⟨x, e, n⟩ => by
    by_cases hc : c = b
    · subst hc; exact ⟨_, upd_same, hn⟩
    · exact ⟨x, by rw [upd_ne hc]; exact e, n⟩⟩
theorem tabs_put {b : Addr} {o o' : HO} (h : H b = some o) (hn : NT o) (hk : ¬ keepO (fun _ => True) b o) (t : Tabs T H) : Tabs T (upd H b o') := Tabs.of_keep t fun c x e ko => by
  by_cases hc : c = b
  · subst hc
    rw [h] at e
    cases e
    rcases ko with ko | ⟨ps, rfl⟩
    · exact absurd ko hk
    · exact hn.elim
  · rw [upd_ne hc]; exact e
theorem DSt.putD (S : DSt X.K (WD E T).P M al σ H δ ω) {kvs : List (Key × V)} {ω' : Om} (hk : ∀ ga ca, H M.sa = some (.dK (dkv ga ca ω)) → kvs = dkv ga ca ω') (h1 : ω'.great = ω.great) (h2 : ω'.cells = ω.cells) :
    DSt X.K (WD E T).P M al σ (upd H M.sa (.dK kvs)) δ ω' ∧ Fr M.Z H (upd H M.sa (.dK kvs)) := by
  obtain ⟨ga, ca, hz, hg, d, t⟩ := S.dg
  have hs : M.Z M.sa := by rw [hz]; exact .inl rfl
  have f : Fr M.Z H (upd H M.sa (.dK kvs)) := fr_put hs d.d (fun z => z hs) trivial
  refine ⟨S.go f ?_, f⟩
  rw [hg]
  refine ⟨⟨?_, ?_, ?_, d.gc, by rw [h1]; exact d.gl, by rw [h2]; exact d.cl⟩, tabs_put d.d trivial (fun z => z trivial) t⟩
  · rw [upd_same, hk ga ca d.d]
  · rw [upd_ne (Ne.symm d.sg), h1]; exact d.g
  · rw [upd_ne (Ne.symm d.sc), h2]; exact d.c
theorem st_rep {K : PySem.W.Frag} {sa : Addr} {N : Addr → Prop} {v : V} (r : Rep K sa N H v .st) : v = .ref sa := by
  cases r
  rfl
/-- state['left'], state['turn'] -/
def eStI (f : Om → Int) (i : Nat) : EvE := fun δ ω => match δ[i]? with
  | some (.val .st) => .ok (.int (f ω)) ω
  | _ => .bad
theorem noSl_str {x : Str} {j : Nat} {p : Pos} : NoSl (.Constant (.str x) j p) := fun _ _ => rfl
theorem pd_stI {x key : Str} {i : Nat} {f : Om → Int} {p p2 : Pos} {j : Nat} (hu : X.A.units + 1 < cLine) (hf : ∀ ga ca ω, valV (dkv ga ca ω) (.inr key) = some (.int (f ω))) (hN : X.N[i]? = some x := by rfl) (hv : Vis X.env.scope x := by first | exact Or.inl rfl | exact Or.inr (Or.inl rfl) | exact Or.inr (Or.inr rfl)) (hd : (x == ("__debug__" : Str)) = false := by decide)
    (hcd : (x == ("__classdict__" : Str)) = false := by decide) : PEd X (WD E T) (.Subscript (.Name x p) (.Constant (.str key) j p2) pos) (eStI f i) := by
  refine ⟨_, pe_dget hu (pe_var hN hv hd hcd) pe_str noSl_str, fun M al σ H δ ω Q S h => ?_⟩
  unfold eStI at h
  split at h
  · rename_i e
    obtain ⟨v, e1, r⟩ := S.val e
    cases st_rep r
    obtain ⟨ga, ca, hz, hg, d, t⟩ := S.dg
    refine ⟨_, e1, M.sa, .int (f ω), rfl, ?_, h _ H S (Fr.refl H) (.int _)⟩
    have q := DGet.k (k := .inr key) d.d
    rw [hf] at q
    exact q
  · exact h.elim
/-- state['left'] = value, state['turn'] = value -/
def sStI (f : Om → Int → Om) (i : Nat) (fa : EvE) : EvS := fun δ ω => (fa δ ω).bind fun d ω1 => match d, δ[i]? with
  | .int k, some (.val .st) => .ok (.nx δ) (f ω1 k)
  | _, _ => .bad
theorem sd_stI {x key : Str} {i : Nat} {f : Om → Int → Om} {p p2 p3 : Pos} {j : Nat} (hu : X.A.units + 1 < cLine) (hf : ∀ ga ca ω k, putK (dkv ga ca ω) (.inr key) (.int k) = dkv ga ca (f ω k)) (h1 : ∀ ω k, (f ω k).great = ω.great) (h2 : ∀ ω k, (f ω k).cells = ω.cells) (ha : PEd X (WD E T) e fa)
    (hN : X.N[i]? = some x := by rfl) (hv : Vis X.env.scope x := by first | exact Or.inl rfl | exact Or.inr (Or.inl rfl) | exact Or.inr (Or.inr rfl)) (hd : (x == ("__debug__" : Str)) = false := by decide)
    (hcd : (x == ("__classdict__" : Str)) = false := by decide) (hs : swapsWith e (some (.Subscript (.Name x p) (.Constant (.str key) j p2) p3)) pos.line X.env = pure false := by rfl) : PSd X (WD E T) (.Assign [.Subscript (.Name x p) (.Constant (.str key) j p2) p3] e pos) (sStI f i fa) := by
  obtain ⟨t, p1, q1⟩ := ha.ex
  refine ⟨_, ps_dput hu (pe_var hN hv hd hcd) pe_str p1 hs, fun M al σ H δ ω D S h => ?_⟩
  refine q1 M al σ H δ ω _ S (post_mono (fun x H1 h1' => ?_) (posts_bind (rel := relE X.K M al) S.fr h))
  obtain ⟨d1, ω1, e1, S1, f1, r1, h1'⟩ := h1'
  split at h1'
  · rename_i k hk
    cases r1
    obtain ⟨v, e2, r⟩ := S1.val hk
    cases st_rep r
    obtain ⟨ga, ca, hz, hg, d, t⟩ := S1.dg
    obtain ⟨S2, f2⟩ := S1.putD (kvs := putK (dkv ga ca ω1) (.inr key) (.int k)) (ω' := f ω1 k) (fun ga' ca' e => by
      rw [d.d] at e
      injection e with e
      injection e with e
      rw [e]
      exact hf ga' ca' ω1 k) (h1 _ _) (h2 _ _)
    refine ⟨_, e2, M.sa, _, rfl, DPut.k (k := .inr key) d.d (by show 4 < sizeLine; decide), ?_⟩
    exact h1' al σ _ S2 (f1.trans f2).s AlExt.refl
  · exact h1'.elim
end
end DL

namespace DL
open PySem PySem.Spec PyProof.Rows L2 LamX
section
variable {X : Cx} {E : XK} {T : List (Addr × Str)} {pos : Pos} {e : Expr} {fa : EvE}
variable {M : Fm} {al : Nat → Option Addr} {σ : L2.St} {H : Hp} {δ : Sls} {ω : Om}
theorem ints_dp {K : PySem.W.Frag} : ∀ ns : List Int, DpAll K H (ns.map V.int) (ns.map PyData.int)
  | [] => .nil
  | n :: r => .cons (.int n) (ints_dp r)
theorem ints_lay : ∀ ns : List Int, PyData.canLayAll0 (ns.map PyData.int) = true ∧ PyData.depthAll (ns.map PyData.int) = 0
  | [] => by simp [PyData.canLayAll0, PyData.depthAll]
  | n :: r => by
    have h := ints_lay r
    simp [PyData.canLayAll0, PyData.depthAll, PyData.canLay0, PyData.depth, h.1, h.2]
theorem ints_shaped (ns : List Int) : SeqAt.shaped (.list (ns.map PyData.int)) = true := by
  unfold SeqAt.shaped
  have h := ints_lay ns
  simp [PyData.canLay0, PyData.depth, h.1, h.2]
theorem ints_eqv_nil (ns : List Int) : PyData.eqv (.list (ns.map PyData.int)) (.list []) = ns.isEmpty := by
  cases ns <;> simp [PyData.eqv, PyData.eqvAll]
/-- state['great'] != [] -/
def tGreat (i : Nat) : EvT := fun δ ω => match δ[i]? with
  | some (.val .st) => .ok (!ω.great.isEmpty) ω
  | _ => .bad
theorem kne {a b : Key} {v : V} (h : a ≠ b) : ¬ ((a, v) : Key × V).1 = b := h
theorem n_gc : kGreat ≠ kCells := by decide
theorem n_gl : kGreat ≠ kLeft := by decide
theorem n_gt : kGreat ≠ kTurn := by decide
theorem n_cl : kCells ≠ kLeft := by decide
theorem n_ct : kCells ≠ kTurn := by decide
theorem n_lt : kLeft ≠ kTurn := by decide
theorem dkv_great (ga ca : Addr) (ω : Om) : valV (dkv ga ca ω) (.inr "great") = some (.ref ga) := rfl
theorem dkv_cells (ga ca : Addr) (ω : Om) : valV (dkv ga ca ω) (.inr "cells") = some (.ref ca) := by
  unfold dkv
  rw [valV_neg (kne n_gc), valV_pos rfl]
theorem dkv_left (ga ca : Addr) (ω : Om) : valV (dkv ga ca ω) (.inr "left") = some (.int ω.left) := by
  unfold dkv
  rw [valV_neg (kne n_gl), valV_neg (kne n_cl), valV_pos rfl]
theorem dkv_turn (ga ca : Addr) (ω : Om) : valV (dkv ga ca ω) (.inr "turn") = some (.int ω.turn) := by
  unfold dkv
  rw [valV_neg (kne n_gt), valV_neg (kne n_ct), valV_neg (kne n_lt), valV_pos rfl]
theorem dkv_putL (ga ca : Addr) (ω : Om) (k : Int) : putK (dkv ga ca ω) (.inr "left") (.int k) = dkv ga ca { ω with left := k } := by
  unfold dkv putK
  rw [if_pos (by simp)]
  simp only [List.map_cons, List.map_nil]
  rw [if_neg n_gl, if_neg n_cl, if_pos trivial, if_neg (Ne.symm n_lt)]
theorem dkv_putT (ga ca : Addr) (ω : Om) (k : Int) : putK (dkv ga ca ω) (.inr "turn") (.int k) = dkv ga ca { ω with turn := k } := by
  unfold dkv putK
  rw [if_pos (by simp)]
  simp only [List.map_cons, List.map_nil]
  rw [if_neg n_gt, if_neg n_ct, if_neg n_lt, if_pos trivial]
theorem td_great {x : Str} {i : Nat} {p p2 p3 p4 : Pos} {j : Nat} (hu : X.A.units + 64 < cLine) (hN : X.N[i]? = some x := by rfl) (hv : Vis X.env.scope x := by first | exact Or.inl rfl | exact Or.inr (Or.inl rfl) | exact Or.inr (Or.inr rfl)) (hd : (x == ("__debug__" : Str)) = false := by decide)
    (hcd : (x == ("__classdict__" : Str)) = false := by decide) (hm : behindInMarks .NotEq (.List [] p4) = false := by first | rfl | exact nobehind _ (by decide) (by decide)) : PTd X (WD E T) (.Compare (.Subscript (.Name x p) (.Constant (.str "great") j p2) p3) [.NotEq] [.List [] p4] pos) (tGreat i) := by
  refine ⟨_, pt_cmpR (op_neD hu) (pe_dget (by omega) (pe_var hN hv hd hcd) pe_str noSl_str) (pe_lst pa_nil) hm, fun M al σ H δ ω Q S h => ?_⟩
  unfold tGreat at h
  split at h
  · rename_i e
    obtain ⟨v, e1, r⟩ := S.val e
    cases st_rep r
    obtain ⟨ga, ca, hz, hg, d, t⟩ := S.dg
    have q := DGet.k (k := .inr "great") d.d
    rw [dkv_great] at q
    refine ⟨_, e1, M.sa, .ref ga, rfl, q, Nat.zero_le _, fun p hp => ?_⟩
    have sm := same_upd (o := .lst []) hp
    refine ⟨_, _, .lst (SqL.of (sm _ _ d.g)) (ints_dp _), .lst (SqL.of upd_same) .nil, ints_shaped _, ints_shaped [], _, rfl, ?_⟩
    rw [ints_eqv_nil]
    exact h _ _ (S.same sm) (.same sm) rfl
  · exact h.elim
/-- state['great'].pop(0) -/
def ePop (i : Nat) : EvE := fun δ ω => match δ[i]?, ω.great with
  | some (.val .st), g :: gs => .ok (.int g) { ω with great := gs }
  | _, _ => .bad
theorem pd_pop {x : Str} {i : Nat} {p p2 p3 apos cpos pz : Pos} {j k : Nat} (hu : X.A.units + 64 < cLine) (hN : X.N[i]? = some x := by rfl) (hv : Vis X.env.scope x := by first | exact Or.inl rfl | exact Or.inr (Or.inl rfl) | exact Or.inr (Or.inr rfl)) (hd : (x == ("__debug__" : Str)) = false := by decide)
    (hcd : (x == ("__classdict__" : Str)) = false := by decide)
    (hbase : attributeBase (.Subscript (.Name x p) (.Constant (.str "great") j p2) p3) "pop" X.env (eval (.Subscript (.Name x p) (.Constant (.str "great") j p2) p3) X.env) = eval (.Subscript (.Name x p) (.Constant (.str "great") j p2) p3) X.env := by rfl)
    (hfew : ((backTo cpos (starEach (.Constant (.int 0) k pz :: []) X.env)).all (fun x => !x.1) && (backToKw cpos (keywordEach [] X.env)).all (fun x => x.1.isSome)
      && decide (((.Constant (.int 0) k pz : Expr) :: []).length + ([] : List Keyword).length + (if ([] : List Keyword).isEmpty then 0 else 1) < 30)) = true := by rfl)
    (hline : (apos.endLine == cpos.line) = true := by rfl) (hs : starEach (.Constant (.int 0) k pz :: []) X.env = (false, eval (.Constant (.int 0) k pz) X.env) :: starEach [] X.env := by rfl) (hplain : (backTo cpos (starEach [] X.env)).any (·.1) = false := by rfl) :
    PEd X (WD E T) (.Call (.Attribute (.Subscript (.Name x p) (.Constant (.str "great") j p2) p3) "pop" apos) [.Constant (.int 0) k pz] [] cpos) (ePop i) := by
  refine ⟨_, pe_bm PySem.F.plainAttrs_list PySem.F.slot_list_pop PySem.F.type_list_pop mt_popAt (pe_dget (by omega) (pe_var hN hv hd hcd) pe_str noSl_str) (pa_cons pe_int pa_nil hs) hbase hfew hline hs hplain, fun M al σ H δ ω Q S h => ?_⟩
  unfold ePop at h
  split at h
  · rename_i g gs e eg
    obtain ⟨v, e1, r⟩ := S.val e
    cases st_rep r
    obtain ⟨ga, ca, hz, hg, d, t⟩ := S.dg
    have q := DGet.k (k := .inr "great") d.d
    rw [dkv_great] at q
    have dg := d.g
    rw [eg] at dg
    refine ⟨_, e1, M.sa, .ref ga, rfl, q, .inl ⟨rfl, _, SqL.of dg⟩, ga, _, 0, 0, .int g, rfl, rfl, dg, by decide, by decide, ?_, rfl, ?_⟩
    · unfold seqIndex?
      simp
    have hga : M.Z ga := by rw [hz]; exact .inr (.inl rfl)
    have f : Fr M.Z H (upd H ga (.lst (((g :: gs).map V.int).eraseIdx 0))) := fr_put hga dg (fun z => z hga) trivial
    refine h _ _ (S.go f ?_) f (.int _)
    rw [hg]
    refine ⟨⟨?_, ?_, ?_, d.gc, ?_, d.cl⟩, tabs_put dg trivial (fun z => z trivial) t⟩
    · rw [upd_ne d.sg]; exact d.d
    · rw [upd_same]; rfl
    · rw [upd_ne (Ne.symm d.gc)]; exact d.c
    · have := d.gl
      rw [eg, List.length_cons] at this
      show gs.length ≤ _
      omega
  · exact h.elim
/-! ### for cell in state['cells'] -/
def loopC (cs : List Int) (g : EvG) (body : EvS) : List Int → EvS
  | [] => sNext
  | d :: ds => fun δ ω => match g (.int d) δ ω with
    | none => .bad
    | some δ1 => (body δ1 ω).bind fun fl ω2 => match fl with
      | .nx δ2 => if ω2.cells = cs then loopC cs g body ds δ2 ω2 else .bad
      | _ => .bad
def sForC (i : Nat) (g : EvG) (body : EvS) : EvS := fun δ ω => match δ[i]? with
  | some (.val .st) => loopC ω.cells g body ω.cells δ ω
  | _ => .bad
theorem sd_forC {x : Str} {tg : Expr} {i : Nat} {p p2 p3 : Pos} {j : Nat} {body : List Stmt} {g : EvG} {fb : EvS} {vs : List Nat} (hp : PassesOwn (model X.prog X.w) X.A X.env X.xe) (hc : X.calm = true) (hu : X.A.units + 64 < cLine) (hg : PGd X (PD T) tg vs g) (hb : PSsd X (WD E T) body fb)
    (hN : X.N[i]? = some x := by rfl) (hv : Vis X.env.scope x := by first | exact Or.inl rfl | exact Or.inr (Or.inl rfl) | exact Or.inr (Or.inr rfl)) (hd : (x == ("__debug__" : Str)) = false := by decide)
    (hcd : (x == ("__classdict__" : Str)) = false := by decide) (hs : ∀ x', foldedSetIterable (.Subscript (.Name x p) (.Constant (.str "cells") j p2) p3) X.env x' = pure x' := by intro _; rfl) :
    PSd X (WD E T) (.For tg (.Subscript (.Name x p) (.Constant (.str "cells") j p2) p3) body [] pos) (sForC i g fb) := by
  obtain ⟨t2, p2, q2⟩ := hg.ex
  obtain ⟨t3, p3, q3⟩ := hb.ex
  refine ⟨_, ps_for hp hc (pi_list (pe_dget (by omega) (pe_var hN hv hd hcd) pe_str noSl_str)) p2 p3 hs, fun M al σ H δ ω D S h => ?_⟩
  unfold sForC at h
  split at h
  · rename_i e
    obtain ⟨v, e1, r⟩ := S.val e
    cases st_rep r
    obtain ⟨ga, ca, hz, hg', d, t⟩ := S.dg
    have q := DGet.k (k := .inr "cells") d.d
    rw [dkv_cells] at q
    refine ⟨_, e1, M.sa, .ref ca, rfl, q, ca, rfl, ⟨_, SqL.of d.c⟩, ?_⟩
    refine ⟨fun i m σ' H' => m = ω.cells.length - i ∧ i ≤ ω.cells.length ∧ ∃ al' δ' ω', DSt X.K (PD T) M al' σ' H' δ' ω' ∧ FrS M al H H' ∧ AlExt H al al' ∧ ω'.cells = ω.cells ∧ PostS X.K M al' H' (loopC ω.cells g fb (ω.cells.drop i) δ' ω') D (WD E T), ⟨ω.cells.length, by simp, Nat.zero_le _, al, δ, ω, S, Fr.refl H, AlExt.refl, rfl, h⟩, ?_⟩
    rintro i m σ1 H1 ⟨rfl, hi, al1, δ1, ω1, S1, f1, x1, ec, h1⟩
    have d1 : DrawG M.sa ga ca ω1 H1 := by
      have z := S1.g
      rw [hg'] at z
      exact z.1
    have hcv : H1 ca = some (.lst (ω.cells.map V.int)) := by rw [← ec]; exact d1.c
    by_cases hlt : i < ω.cells.length
    · rw [List.drop_eq_getElem_cons hlt] at h1
      refine .inr ⟨⟨_, .int (ω.cells[i]), SqL.of hcv, by simp [hlt]⟩, fun σ' H' => ∃ al' δ' ω', DSt X.K (PD T) M al' σ' H' δ' ω' ∧ FrS M al H H' ∧ AlExt H al al' ∧ ω'.cells = ω.cells ∧ PostS X.K M al' H' (loopC ω.cells g fb (ω.cells.drop (i + 1)) δ' ω') D (WD E T), fun σ'' H'' z => ⟨ω.cells.length - (i + 1), by omega, rfl, hlt, z⟩, fun x H2 y => ?_⟩
      obtain ⟨eH, y⟩ := y
      subst H2
      have ex : (ω.cells.map V.int)[i]? = some x := y _ (SqL.of hcv)
      have ex2 : V.int (ω.cells[i]) = x := by
        rw [List.getElem?_map, List.getElem?_eq_getElem hlt] at ex
        exact Option.some.inj ex
      subst ex2
      unfold loopC at h1
      cases eg : g (.int ω.cells[i]) δ1 ω1 with
      | none => rw [eg] at h1; exact (show False from h1).elim
      | some δ2 =>
        rw [eg] at h1
        dsimp only at h1
        refine q2 M al1 σ1 H1 δ1 ω1 _ _ δ2 _ S1 (.int _) eg fun σ2 S3 _ _ => ?_
        have x2 : AlExt H1 al1 (alW al1 vs) := fun j a q => .inl ⟨j, (alW_sub q).1⟩
        have x12 : AlExt H al (alW al1 vs) := x1.trans f1 x2
        refine q3 M (alW al1 vs) σ2 H1 δ2 ω1 _ S3 ?_
        cases er : fb δ2 ω1 with
        | ok fl ω3 =>
          rw [er] at h1
          cases fl with
          | nx δ3 =>
            dsimp only [Rs.bind] at h1
            split at h1
            · rename_i hc3
              exact fun al3 σ3 H3 S4 f3 x3 => ⟨al3, δ3, ω3, S4, f1.trans x12 f3, x12.trans f1 x3, hc3, posts_from (FrS.trans (al1 := alW al1 vs) (Fr.refl H1) x2 f3) (x2.trans (Z := fun _ => False) (Fr.refl H1) x3) h1⟩
            · exact (show False from h1).elim
          | ct δ3 => exact (show False from h1).elim
          | bk δ3 => exact (show False from h1).elim
          | rt d => exact (show False from h1).elim
        | err z ω3 => rw [er] at h1; exact h1
        | bad => rw [er] at h1; exact h1
    · have e : i = ω.cells.length := by omega
      subst e
      rw [List.drop_length] at h1
      exact .inl ⟨⟨_, SqL.of hcv, by simp⟩, h1 al1 σ1 _ S1 (Fr.refl _) AlExt.refl⟩
  · exact h.elim
end
end DL

namespace DL
open PySem PySem.Spec PyProof.Rows L2 LamX
section
variable {X : Cx} {W : Wt} {P : PP} {K : PySem.W.Frag} {M : Fm} {al : Nat → Option Addr} {σ : L2.St} {H H' : Hp} {δ : Sls} {ω ω' : Om}
variable {a b e c : Expr} {es : List Expr} {fa fb fc : EvE} {ft fu : EvT} {fs : EvA} {gs gt : EvS} {pos : Pos} {st : Stmt} {rest : List Stmt}
/-- a list that came up by the way becomes the def's own -/
theorem DSt.takeOwn (S : DSt K P M al σ H δ ω) {i : Nat} {L : Addr} {xs : List V} {ds : List D} (hL : H L = none) (hi : i < δ.length) (f : Fr M.Z H H') (g : M.G ω' H') (hL' : H' L = some (.lst xs)) (hl : xs.length ≤ sizeLine) (r : Reps K M.sa (fun b => NA M.N al b ∨ b = L) H' xs ds) :
    DSt K P M (fun j => if j = i then some L else al j) (σ.set i (some (.ref L))) H' (δ.set i (.own ds)) ω' := by
  have hle : ∀ b, NA M.N (fun j => if j = i then some L else al j) b → Tr H b → NA M.N al b := fun b hb ⟨o, ho, _⟩ => by
    rcases hb with hb | ⟨k, hb⟩
    · exact .inl hb
    · by_cases e : k = i
      · simp only [e, if_pos] at hb
        cases hb
        rw [hL] at ho; cases ho
      · simp only [if_neg e] at hb; exact .inr ⟨k, hb⟩
  have hle2 : ∀ b, NA M.N (fun j => if j = i then some L else al j) b → Tr H' b → (NA M.N al b ∨ b = L) := fun b hb _ => by
    rcases hb with hb | ⟨k, hb⟩
    · exact .inl (.inl hb)
    · by_cases e : k = i
      · simp only [e, if_pos] at hb
        cases hb
        exact .inr rfl
      · simp only [if_neg e] at hb; exact .inl (.inr ⟨k, hb⟩)
  refine ⟨S.pp, S.zn, S.gm, g, fun b hb => f.there b (S.nt b hb), S.fr.trans f, by rw [List.length_set, List.length_set]; exact S.len, fun j hj => ?_, fun j k a h1 h2 => ?_, fun j a h => ?_⟩
  · rw [List.length_set] at hj
    by_cases e : j = i
    · subst e
      have hs : j < σ.length := by rw [S.len]; exact hj
      rw [List.getElem?_set_self hs, List.getElem?_set_self hj, if_pos rfl]
      exact .own hL' hl (r.less hle2)
    · rw [List.getElem?_set_ne (Ne.symm e), List.getElem?_set_ne (Ne.symm e), if_neg e]
      have q := S.sl j hj
      have nz : ∀ a, al j = some a → ¬ M.Z a := fun a ha z => (S.fresh j a ha).2.1 (S.zn a z)
      generalize (σ[j]?).getD none = o at q ⊢
      generalize (δ[j]?).getD .emp = x at q ⊢
      generalize al j = w at q nz ⊢
      cases q with
      | emp => exact .emp
      | val r => exact .val ((r.less hle).mono f fun b z => .inl (S.zn b z))
      | own h l r => exact .own (f.keep _ _ h (nz _ rfl)) l ((r.less hle).mono f fun b z => .inl (S.zn b z))
  · have noL : ∀ k, al k ≠ some L := fun k z => by
      obtain ⟨ys, e⟩ := S.own_there z
      rw [hL] at e; cases e
    by_cases e1 : j = i
    · by_cases e2 : k = i
      · rw [e1, e2]
      · simp only [e1, if_pos] at h1
        simp only [if_neg e2] at h2
        rw [← h1] at h2
        exact absurd h2 (noL k)
    · by_cases e2 : k = i
      · simp only [if_neg e1] at h1
        simp only [e2, if_pos] at h2
        rw [← h2] at h1
        exact absurd h1 (noL j)
      · simp only [if_neg e1] at h1
        simp only [if_neg e2] at h2
        exact S.inj j k a h1 h2
  · rw [List.length_set]
    by_cases e1 : j = i
    · simp only [e1, if_pos] at h
      cases h
      exact ⟨fun z => Tr.not hL (S.fr.there L z), fun z => Tr.not hL (S.nt L z), by rw [e1]; exact hi⟩
    · simp only [if_neg e1] at h
      exact S.fresh j a h
/-- y = [.. for ..], to be changed -/
def sNewLc (i : Nat) (fa : EvE) : EvS := fun δ ω => if i < δ.length then (fa δ ω).bind fun d ω1 => match d with
  | .lst ds => .ok (.nx (δ.set i (.own ds))) ω1
  | _ => .bad else .bad
theorem sd_newLc {i : Nat} {y : Str} {py spos : Pos} {elt tg iter : Expr} {ifs : List Expr} {scope : Scope} {own : List (Str × Nat)} {fi : EvI} {g : EvG} {fe : EvE} (hc : X.calm = true) (hN : X.N.Nodup) (hy : X.N[i]? = some y) (hyl : X.env.scope.names.lookup y = some .local)
    (hsw : swapsWith (.ListComp elt [⟨tg, iter, ifs, 0⟩] scope pos) (some (.Name y py)) spos.line X.env = pure true) (hi : PId X W tg iter fi) (ok : BlkOk X.N X.env.scope scope own)
    (hg : ∀ p, PGd (Blk X scope p) W.P tg (own.map (·.2)) g) (ht : ∀ p, PTsd (Blk X scope p) (NoX W.P) ifs ft) (he : ∀ p, PEd (Blk X scope p) (NoX W.P) elt fe)
    (hs : ∀ x, foldedSetIterable iter X.env x = pure x := by intro _; rfl) : PSd X W (.Assign [.Name y py] (.ListComp elt [⟨tg, iter, ifs, 0⟩] scope pos) spos) (sNewLc i (eComp fi g ft fe (own.map (·.2)))) := by
  obtain ⟨t1, p1, q1⟩ := hi.ex
  obtain ⟨t2, q2, p2⟩ := fam_g (K := X.K) (Xi := Blk X scope) (fun _ => rfl) hg
  obtain ⟨t3, q3, p3⟩ := fam_ts (K := X.K) (Xi := Blk X scope) (fun _ => rfl) ht
  obtain ⟨t4, q4, p4⟩ := fam_e (K := X.K) (Xi := Blk X scope) (fun _ => rfl) he
  refine ⟨_, ps_setLc hc hN hy hyl hsw p1 ok (fun s H C cl fp => p2 (s, H, C, cl, fp)) (fun s H C cl fp => p3 (s, H, C, cl, fp)) (fun s H C cl fp => p4 (s, H, C, cl, fp)) hs, fun M al σ H δ ω DD S h => ?_⟩
  unfold sNewLc at h
  split at h
  · rename_i hlt
    have h2 : PostS X.K M al H ((fi δ ω).bind fun ds ω1 => ((noErr (compF g ft fe (wipeD δ (own.map (·.2))) ds ω1)).bind fun ys ω2 => .ok (.nx (δ.set i (.own ys))) ω2)) DD W := by
      unfold eComp at h
      cases ef : fi δ ω with
      | ok ds ω1 =>
        rw [ef] at h
        dsimp only [Rs.bind] at h ⊢
        cases ec : noErr (compF g ft fe (wipeD δ (own.map (·.2))) ds ω1) with
        | ok ys ω2 => rw [ec] at h; exact h
        | err z ω2 => rw [ec] at h; exact h
        | bad => rw [ec] at h; exact h
      | err z ω1 => rw [ef] at h; exact h
      | bad => rw [ef] at h; exact h
    refine q1 M al σ H δ ω _ S (post_mono (fun J H1 h1 => ?_) (posts_bind (rel := fun H1 J ds => ItD X.K M.sa (NA M.N al) J H1 ds) S.fr h2))
    obtain ⟨ds, ω1, e1, S1, f1, r1, h1⟩ := h1
    intro L hL
    let rel : Hp → V → D → Prop := fun H' v d => v = .ref L ∧ ∃ xs ds, d = .lst ds ∧ H' L = some (.lst xs) ∧ xs.length ≤ sizeLine ∧ Reps X.K M.sa (fun b => NA M.N al b ∨ b = L) H' xs ds
    refine comp_okG (rel := rel) (Q := fun x H1 => gName i x σ H1 DD.nx) q2 q3 q4 S1 r1 L (fun H' xs ds q1 q2 q3 => ⟨rfl, xs, ds, rfl, q1, q2, q3⟩) ?_ hL
    cases ec : noErr (compF g ft fe (wipeD δ (own.map (·.2))) ds ω1) with
    | err z ω2 => rw [ec] at h1; exact fun cls dd H' f' g' x' => h1 cls dd H' (S1.fr.trans f') g' (x'.less fun b hb _ => .inl hb)
    | bad => rw [ec] at h1; exact h1
    | ok ys ω2 =>
      rw [ec] at h1
      rintro v H' S2 f2 ⟨rfl, xs, es, ed, k1, k2, k3⟩
      cases ed
      refine h1 _ _ _ (S1.takeOwn hL hlt f2 S2.g k1 k2 k3) (f1.trans f2).s fun j a q => ?_
      by_cases ej : j = i
      · simp only [ej, if_pos] at q
        cases q
        exact .inr fun z => Tr.not hL (f1.there L z)
      · simp only [if_neg ej] at q; exact .inl ⟨j, q⟩
  · exact h.elim
/-- a comprehension whose list is known to be new -/
theorem lc_new {elt tg iter : Expr} {ifs : List Expr} {scope : Scope} {own : List (Str × Nat)} {fi : EvI} {g : EvG} {fe : EvE} (hc : X.calm = true) (hN : X.N.Nodup) (hi : PId X W tg iter fi) (ok : BlkOk X.N X.env.scope scope own)
    (hg : ∀ p, PGd (Blk X scope p) W.P tg (own.map (·.2)) g) (ht : ∀ p, PTsd (Blk X scope p) (NoX W.P) ifs ft) (he : ∀ p, PEd (Blk X scope p) (NoX W.P) elt fe)
    (hs : ∀ x, foldedSetIterable iter X.env x = pure x := by intro _; rfl) : ∃ t, PE X (.ListComp elt [⟨tg, iter, ifs, 0⟩] scope pos) t ∧ ∀ M al σ H δ ω Q, DSt X.K W.P M al σ H δ ω → PostR X.K M al σ H δ (fun H' v d => ∃ L xs ds, v = .ref L ∧ ¬ Tr H L ∧ d = .lst ds ∧ H' L = some (.lst xs) ∧ xs.length ≤ sizeLine ∧ Reps X.K M.sa (NA M.N al) H' xs ds) (eComp fi g ft fe (own.map (·.2)) δ ω) Q W → t σ H Q := by
  obtain ⟨t1, p1, q1⟩ := hi.ex
  obtain ⟨t2, q2, p2⟩ := fam_g (K := X.K) (Xi := Blk X scope) (fun _ => rfl) hg
  obtain ⟨t3, q3, p3⟩ := fam_ts (K := X.K) (Xi := Blk X scope) (fun _ => rfl) ht
  obtain ⟨t4, q4, p4⟩ := fam_e (K := X.K) (Xi := Blk X scope) (fun _ => rfl) he
  refine ⟨_, pe_lc hc hN p1 ok (fun s H C cl fp => p2 (s, H, C, cl, fp)) (fun s H C cl fp => p3 (s, H, C, cl, fp)) (fun s H C cl fp => p4 (s, H, C, cl, fp)) hs, fun M al σ H δ ω Q S h => ?_⟩
  refine q1 M al σ H δ ω _ S (post_mono (fun J H1 h1 => ?_) (post_bind (rel := fun H1 J ds => ItD X.K M.sa (NA M.N al) J H1 ds) h))
  obtain ⟨ds, ω1, e1, S1, f1, r1, h1⟩ := h1
  exact fun L hL => comp_okG q2 q3 q4 S1 r1 L (fun H' xs ds k1 k2 k3 => ⟨L, xs, ds, rfl, fun z => Tr.not hL (f1.there L z), rfl, k1, k2, k3.less fun b hb _ => .inl hb⟩) (post_from f1 h1) hL
end
end DL

namespace DL
open PySem PySem.Spec PyProof.Rows L2 LamX
section
variable {X : Cx} {W : Wt} {K : PySem.W.Frag}
instance decDiv (i j : Int) : Decidable (CDiv i j) := by unfold CDiv; infer_instance
instance decPow (i j : Int) : Decidable (CPow i j) := by unfold CPow; infer_instance
instance decMul (i j : Int) : Decidable (CMul i j) := by unfold CMul; infer_instance
abbrev gSub : D → D → Option D := gII fun i j => .int (i - j)
theorem o_sub : Op2 K (rI0 fun i j => .int (i - j)) gSub := op2_I0 fun _ _ _ _ _ => .int _
abbrev gMul : D → D → Option D := gIC CMul fun i j => .int (i * j)
theorem o_mul : Op2 K (rI CMul fun i j => .int (i * j)) gMul := op2_I fun _ _ _ _ _ => .int _
abbrev gDiv : D → D → Option D := gIC CDiv fun i j => .int (i / j)
theorem o_div : Op2 K (rI CDiv fun i j => .int (i / j)) gDiv := op2_I fun _ _ _ _ _ => .int _
abbrev gMod : D → D → Option D := gIC (fun _ j => 0 < j) fun i j => .int (i % j)
theorem o_mod : Op2 K (rI (fun _ j => 0 < j) fun i j => .int (i % j)) gMod := op2_I fun _ _ _ _ _ => .int _
abbrev gPow : D → D → Option D := gIC CPow fun i j => .int (i ^ j.toNat)
theorem o_pow : Op2 K (rI CPow fun i j => .int (i ^ j.toNat)) gPow := op2_I fun _ _ _ _ _ => .int _
abbrev gLt : D → D → Option D := gII fun i j => .bl (decide (i < j))
theorem o_lt : Op2 K (rI0 fun i j => .bl (decide (i < j))) gLt := op2_I0 fun _ _ _ _ _ => .bl _
abbrev gLeI : D → D → Option D := gII fun i j => .bl (decide (i ≤ j))
theorem o_le : Op2 K (rI0 fun i j => .bl (decide (i ≤ j))) gLeI := op2_I0 fun _ _ _ _ _ => .bl _
abbrev gGt : D → D → Option D := gII fun i j => .bl (decide (j < i))
theorem o_gt : Op2 K (rI0 fun i j => .bl (decide (j < i))) gGt := op2_I0 fun _ _ _ _ _ => .bl _
abbrev gGe : D → D → Option D := gII fun i j => .bl (decide (j ≤ i))
theorem o_ge : Op2 K (rI0 fun i j => .bl (decide (j ≤ i))) gGe := op2_I0 fun _ _ _ _ _ => .bl _
def gNeg : D → Option D
  | .int i => some (.int (-i))
  | _ => none
theorem o_neg : Op1 K (rU fun i => .int (-i)) gNeg := ⟨fun sa N H x a d Q r e nt k => by
  unfold gNeg at e
  split at e
  · cases r
    cases e
    exact ⟨_, rfl, k _ _ (Same.refl _) (.int _)⟩
  · cases e⟩
/-! ### built-ins of one value -/
theorem OpN.orN {r r' : List V → Hp → VK → Prop} {g g' : List D → Option D} (h : OpN K r g) (h' : OpN K r' g') : OpN K (fun xs H Q => r xs H Q ∨ r' xs H Q) (fun as => (g as).or (g' as)) := ⟨fun sa N H xs as d Q ra e nt k => by
  cases q : g as with
  | some z =>
    rw [q] at e
    exact .inl (h.ok sa N H xs as d Q ra (by rw [q]; exact e) nt k)
  | none =>
    rw [q] at e
    exact .inr (h'.ok sa N H xs as d Q ra e nt k)⟩
def gAbs : List D → Option D
  | [.int i] => some (.int (if i < 0 then -i else i))
  | _ => none
theorem o_abs : OpN K (fun xs H Q => ∃ i, xs = [.int i] ∧ Q (.int (if i < 0 then -i else i)) H) gAbs := ⟨fun sa N H xs as d Q r e nt k => by
  unfold gAbs at e
  split at e
  · obtain ⟨v, rfl, r1⟩ := r.one
    cases r1
    cases e
    exact ⟨_, rfl, k _ _ (Same.refl _) (.int _)⟩
  · cases e⟩
def gIntI : List D → Option D
  | [.int i] => some (.int i)
  | [.bl b] => some (.int (if b then 1 else 0))
  | _ => none
theorem o_intI : OpN K (fun xs H Q => (∃ i, xs = [.int i] ∧ Q (.int i) H) ∨ ∃ k, xs = [.bl k] ∧ Q (.int (if k then 1 else 0)) H) gIntI := ⟨fun sa N H xs as d Q r e nt k => by
  unfold gIntI at e
  split at e
  · obtain ⟨v, rfl, r1⟩ := r.one
    cases r1
    cases e
    exact .inl ⟨_, rfl, k _ _ (Same.refl _) (.int _)⟩
  · obtain ⟨v, rfl, r1⟩ := r.one
    cases r1
    cases e
    exact .inr ⟨_, rfl, k _ _ (Same.refl _) (.int _)⟩
  · cases e⟩
def gIntS : List D → Option D
  | [.str a] => if a.length ≤ 640 then (PySem.intText? a).map D.int else none
  | _ => none
theorem o_intS : OpN K (fun xs H Q => ∃ a n, xs = [.str a] ∧ PySem.intText? a = some n ∧ a.length ≤ 640 ∧ Q (.int n) H) gIntS := ⟨fun sa N H xs as d Q r e nt k => by
  unfold gIntS at e
  split at e
  · rename_i a
    obtain ⟨v, rfl, r1⟩ := r.one
    cases r1
    split at e
    · rename_i hl
      cases q : PySem.intText? a with
      | none => rw [q] at e; cases e
      | some n =>
        rw [q] at e
        cases e
        exact ⟨_, n, rfl, q, hl, k _ _ (Same.refl _) (.int _)⟩
    · cases e
  · cases e⟩
abbrev gInt : List D → Option D := fun as => (gIntI as).or (gIntS as)
theorem o_int : OpN K (fun xs H Q => (fun xs H Q => (∃ i, xs = [V.int i] ∧ Q (.int i) H) ∨ ∃ k, xs = [V.bl k] ∧ Q (V.int (if k then 1 else 0)) H) xs H Q ∨ (fun xs H Q => ∃ a n, xs = [V.str a] ∧ PySem.intText? a = some n ∧ a.length ≤ 640 ∧ Q (V.int n) H) xs H Q) gInt := o_intI.orN o_intS
theorem c_int : CallR X (.type "int") (fun xs H Q => (fun xs H Q => (∃ i, xs = [V.int i] ∧ Q (.int i) H) ∨ ∃ k, xs = [V.bl k] ∧ Q (V.int (if k then 1 else 0)) H) xs H Q ∨ (fun xs H Q => ∃ a n, xs = [V.str a] ∧ PySem.intText? a = some n ∧ a.length ≤ 640 ∧ Q (V.int n) H) xs H Q) := call_int1.or call_int_str
def gStrI : List D → Option D
  | [.int i] => if i.natAbs.log2 < 1920 then some (.str (toString i)) else none
  | _ => none
theorem o_strI : OpN K (fun xs H Q => ∃ i, xs = [.int i] ∧ i.natAbs.log2 < 1920 ∧ Q (.str (toString i)) H) gStrI := ⟨fun sa N H xs as d Q r e nt k => by
  unfold gStrI at e
  split at e
  · obtain ⟨v, rfl, r1⟩ := r.one
    cases r1
    split at e
    · rename_i hl
      cases e
      exact ⟨_, rfl, hl, k _ _ (Same.refl _) (.str _)⟩
    · cases e
  · cases e⟩
def gOrd : List D → Option D
  | [.str x] => if x.length = 1 then some (.int (x.cps.getD 0 0 : Nat)) else none
  | _ => none
theorem o_ord : OpN K (fun xs H Q => ∃ x, xs = [.str x] ∧ x.length = 1 ∧ Q (.int (x.cps.getD 0 0 : Nat)) H) gOrd := ⟨fun sa N H xs as d Q r e nt k => by
  unfold gOrd at e
  split at e
  · obtain ⟨v, rfl, r1⟩ := r.one
    cases r1
    split at e
    · rename_i hl
      cases e
      exact ⟨_, rfl, hl, k _ _ (Same.refl _) (.int _)⟩
    · cases e
  · cases e⟩
def gMin2 : List D → Option D
  | [.int i, .int j] => some (.int (if j < i then j else i))
  | _ => none
theorem Reps.two {sa : Addr} {N : Addr → Prop} {H : Hp} {xs : List V} {d1 d2 : D} (r : Reps K sa N H xs [d1, d2]) : ∃ v w, xs = [v, w] ∧ Rep K sa N H v d1 ∧ Rep K sa N H w d2 := by
  cases r with
  | cons r rs => cases rs with
    | cons r2 rs => cases rs; exact ⟨_, _, rfl, r, r2⟩
theorem o_min2 : OpN K (fun xs H Q => ∃ i j, xs = [.int i, .int j] ∧ Q (.int (if j < i then j else i)) H) gMin2 := ⟨fun sa N H xs as d Q r e nt k => by
  unfold gMin2 at e
  split at e
  · obtain ⟨v, w, rfl, r1, r2⟩ := r.two
    cases r1
    cases r2
    cases e
    exact ⟨_, _, rfl, k _ _ (Same.refl _) (.int _)⟩
  · cases e⟩
def gMax2 : List D → Option D
  | [.int i, .int j] => some (.int (if j > i then j else i))
  | _ => none
theorem o_max2 : OpN K (fun xs H Q => ∃ i j, xs = [.int i, .int j] ∧ Q (.int (if j > i then j else i)) H) gMax2 := ⟨fun sa N H xs as d Q r e nt k => by
  unfold gMax2 at e
  split at e
  · obtain ⟨v, w, rfl, r1, r2⟩ := r.two
    cases r1
    cases r2
    cases e
    exact ⟨_, _, rfl, k _ _ (Same.refl _) (.int _)⟩
  · cases e⟩
end
theorem ints_of_map : ∀ ns : List Int, intsOf (ns.map D.int) = some ns
  | [] => rfl
  | n :: r => by
    show (intsOf (r.map D.int)).map (n :: ·) = _
    rw [ints_of_map r]
    rfl
/-! ### comprehensions without effect -/
theorem compF_pure {g : EvG} {ft : EvT} {fe : EvE} {δ : Sls} {ω : Om} (p : D → Bool) (f : D → D) : ∀ {ds : List D}, (∀ d, d ∈ ds → ∃ δ1, g d δ ω = some δ1 ∧ ft δ1 ω = .ok (p d) ω ∧ (p d = true → fe δ1 ω = .ok (f d) ω)) → compF g ft fe δ ds ω = .ok ((ds.filter p).map f) ω
  | [], _ => rfl
  | d :: ds, h => by
    obtain ⟨δ1, h1, h2, h3⟩ := h d (by simp)
    have ih := compF_pure p f (ds := ds) fun x hx => h x (by simp [hx])
    unfold compF
    rw [h1]
    dsimp only
    rw [h2, Rs.bind_ok]
    by_cases hp : p d = true
    · rw [if_pos hp, h3 hp, Rs.bind_ok, ih, Rs.bind_ok, List.filter_cons_of_pos hp]
      rfl
    · rw [if_neg hp, ih, List.filter_cons_of_neg hp]
/-! ### the first draw of a state -/
def absI (i : Int) : Int := if i < 0 then -i else i
def om0 (ns : List Int) : Om := { great := (ns.filter fun i => decide ((10 : Int) ^ 18 ≤ absI i)).map fun i => absI i - 10 ^ 18, cells := ns.map absI, left := 0, turn := 0 }
def spBegun (K : PySem.W.Frag) (T : List (Addr × Str)) : Sp := fun vs H Q _ => ∃ a ns, vs = [.ref a] ∧ SqL K H a (ns.map V.int) ∧ ns.length ≤ sizeLine ∧ Tabs T H ∧
  ∀ sa ga ca H', Fr (fun _ => False) H H' → ¬ Tr H sa → ¬ Tr H ga → ¬ Tr H ca → DrawG sa ga ca (om0 ns) H' → Tabs T H' → Q (.ref sa) H'
/-- what the first row of the first def is -/
def eBg1 : EvE := eComp (iLst (eVar 0)) (gdName 2) (tB (eOp2 gGe (eOpN gAbs (aCons (eVar 2) aNil)) (eOp2 gPow (eC (.int 10)) (eC (.int 18))))) (eOp2 gSub (eOpN gAbs (aCons (eVar 2) aNil)) (eOp2 gPow (eC (.int 10)) (eC (.int 18)))) [2]
def eBg2 : EvE := eComp (iLst (eVar 0)) (gdName 2) tTrue (eOpN gAbs (aCons (eVar 2) aNil)) [2]
theorem pow18 : gPow (.int 10) (.int 18) = some (.int ((10 : Int) ^ 18)) := by
  show (if CPow 10 18 then some (D.int ((10 : Int) ^ (18 : Int).toNat)) else none) = _
  rw [if_pos (by unfold CPow; decide)]
  rfl
theorem filter_ints {p : D → Bool} {q : Int → Bool} {f : D → D} {h : Int → Int} (hp : ∀ i, p (.int i) = q i) (hf : ∀ i, f (.int i) = .int (h i)) : ∀ ns : List Int, ((ns.map D.int).filter p).map f = ((ns.filter q).map h).map D.int
  | [] => rfl
  | n :: r => by
    rw [List.map_cons]
    by_cases e : q n = true
    · rw [List.filter_cons_of_pos (by rw [hp]; exact e), List.filter_cons_of_pos e, List.map_cons, List.map_cons, List.map_cons, hf, filter_ints hp hf r]
    · rw [List.filter_cons_of_neg (by rw [hp]; exact e), List.filter_cons_of_neg e, filter_ints hp hf r]
theorem eBg1_run {ns : List Int} {x y : Sl} {ω : Om} : eBg1 [.val (.scr ns), x, y] ω = .ok (.lst ((om0 ns).great.map .int)) ω := by
  unfold eBg1 eComp
  show (noErr (compF (gdName 2) _ _ _ (ns.map .int) ω)).bind _ = _
  rw [compF_pure (p := fun d => match d with | .int i => decide ((10 : Int) ^ 18 ≤ absI i) | _ => false) (f := fun d => match d with | .int i => .int (absI i - 10 ^ 18) | _ => .non)]
  · show Rs.ok (D.lst _) ω = _
    rw [filter_ints (q := fun i => decide ((10 : Int) ^ 18 ≤ absI i)) (h := fun i => absI i - 10 ^ 18) (fun _ => rfl) (fun _ => rfl)]
    rfl
  · intro d hd
    obtain ⟨i, _, rfl⟩ := List.mem_map.mp hd
    refine ⟨_, rfl, ?_, fun _ => ?_⟩
    · show ((rs1 (gPow (.int 10) (.int 18)) ω).bind fun b ω2 => rs1 (gGe (.int (absI i)) b) ω2).bind _ = _
      rw [pow18]
      rfl
    · show ((rs1 (gPow (.int 10) (.int 18)) ω).bind fun b ω2 => rs1 (gSub (.int (absI i)) b) ω2) = _
      rw [pow18]
      rfl
theorem eBg2_run {ns : List Int} {x y : Sl} {ω : Om} : eBg2 [.val (.scr ns), x, y] ω = .ok (.lst ((om0 ns).cells.map .int)) ω := by
  unfold eBg2 eComp
  show (noErr (compF (gdName 2) _ _ _ (ns.map .int) ω)).bind _ = _
  rw [compF_pure (p := fun _ => true) (f := fun d => match d with | .int i => .int (absI i) | _ => .non)]
  · show Rs.ok (D.lst _) ω = _
    rw [filter_ints (q := fun i => true) (h := absI) (fun _ => rfl) (fun _ => rfl)]
    rw [List.filter_eq_self.mpr fun _ _ => rfl]
    rfl
  · intro d hd
    obtain ⟨i, _, rfl⟩ := List.mem_map.mp hd
    exact ⟨_, rfl, rfl, fun _ => rfl⟩
theorem DSt.start {K : PySem.W.Frag} {P : PP} {M : Fm} {n : Nat} {N : List Str} {vs : List V} {ds : List D} {ω : Om} (pp : P M.sa M.Z M.G) (zn : ∀ b, M.Z b → M.N b) (gm : GM M.Z M.G) (g : M.G ω M.H0) (nt : ∀ b, M.N b → Tr M.H0 b) (r : Reps K M.sa M.N M.H0 vs ds) (hl : vs.length = n) (hn : N.length = n + (N.length - n)) :
    DSt K P M (fun _ => none) (L2.start N vs) M.H0 (ds.map .val ++ List.replicate (N.length - ds.length) .emp) ω := by
  refine ⟨pp, zn, gm, g, nt, Fr.refl _, ?_, fun i hi => ?_, fun i j a z => (by cases z), fun i a z => (by cases z)⟩
  · unfold L2.start
    simp only [List.length_append, List.length_map, List.length_replicate, r.len]
  · unfold L2.start
    have len := r.len
    by_cases hlt : i < ds.length
    · have hv : i < vs.length := by omega
      rw [List.getElem?_append_left (by simpa using hv), List.getElem?_append_left (by simpa using hlt), List.getElem?_map, List.getElem?_map]
      cases e : vs[i]? with
      | none => rw [List.getElem?_eq_none_iff] at e; omega
      | some v =>
        obtain ⟨d, hd, rd⟩ := r.get e
        rw [hd]
        exact .val (rd.less fun b hb _ => by
          rcases hb with hb | ⟨_, hb⟩
          · exact hb
          · cases hb)
    · have hv : vs.length ≤ i := by omega
      have e : ((ds.map Sl.val ++ List.replicate (N.length - ds.length) Sl.emp)[i]?).getD .emp = Sl.emp := by
        rw [List.getElem?_append_right (by simp; omega), List.getElem?_replicate]
        split <;> rfl
      rw [e]
      exact .emp
theorem scr_rep {K : PySem.W.Frag} {sa : Addr} {N : Addr → Prop} {H : Hp} {a : Addr} {ns : List Int} (h : SqL K H a (ns.map V.int)) (hl : ns.length ≤ sizeLine) (hn : Tr H a → ¬ N a) : Rep K sa N H (.ref a) (.scr ns) := by
  rcases h with (h | ⟨o, h⟩) | h
  · exact .scrL h (hn ⟨_, h, trivial⟩) hl
  · exact .scr (.inl ⟨o, h⟩) hl
  · exact .scr (.inr h) hl
abbrev PN : PP := fun _ _ _ => True
section
variable {Pr : Program} {w : World} {K : PySem.W.Frag} {mg : Str → Option Value} {base : Heap} {qual : Str} {std : Stmt} {f : Addr} {fd : FuncData} {k : Nat}
theorem mergeD (ga ca : Addr) : mergeK [] [(kGreat, V.ref ga), (kCells, .ref ca), (kLeft, .int 0), (kTurn, .int 0)] = [(kGreat, V.ref ga), (kCells, .ref ca), (kLeft, .int 0), (kTurn, .int 0)] := by
  simp only [mergeK, List.foldl, putK, List.any, List.map, Bool.or_false, Bool.false_or, decide_eq_true_eq, List.nil_append, List.append_nil, Bool.or_eq_true, Bool.false_eq_true, if_false, n_gc, n_gl, n_gt, n_cl, n_ct, n_lt, List.cons_append, false_or, or_false]
/-- the def that begins a state -/
theorem begun_ok {T : List (Addr × Str)} (F : Fun K "_law_begun" qual std f fd) (sc : FnScope ["script", "great", "cell"] ["script"] (defScope std)) (hv : Vis (defScope std) "great")
    (hb : ∀ (cdv : Value) (A : Around) (outer : List Env) (s : Shared) (H : Hp) (E : XK), Room k (A.deeper (envOfC qual (defScope std) s.heap.objs.size f cdv)) → Takes (cxOf (L2.CX Pr w) Pr w K mg base ["script", "great", "cell"] qual (defScope std) f cdv A outer s H E) (fun cls d _ H => E cls d H) →
      ∃ st1 lc2 q1 q2 q3 q4 q5 q6 q7 q8 q9, defBody std = [st1, .Return (some (.Dict [some (.Constant (.str "great") 0 q1), some (.Constant (.str "cells") 0 q2), some (.Constant (.str "left") 0 q3), some (.Constant (.str "turn") 0 q4)] [.Name "great" q5, lc2, .Constant (.int 0) 0 q6, .Constant (.int 0) 0 q7] q8)) q9] ∧
        PSd (cxOf (L2.CX Pr w) Pr w K mg base ["script", "great", "cell"] qual (defScope std) f cdv A outer s H E) ⟨E, PN⟩ st1 (sNewLc 1 eBg1) ∧
        ∃ t, PE (cxOf (L2.CX Pr w) Pr w K mg base ["script", "great", "cell"] qual (defScope std) f cdv A outer s H E) lc2 t ∧ ∀ M al σ H δ ω Q, DSt K PN M al σ H δ ω → PostR K M al σ H δ (fun H' v d => ∃ L xs ds, v = .ref L ∧ ¬ Tr H L ∧ d = .lst ds ∧ H' L = some (.lst xs) ∧ xs.length ≤ sizeLine ∧ Reps K M.sa (NA M.N al) H' xs ds) (eBg2 δ ω) Q ⟨E, PN⟩ → t σ H Q) :
    FnOk Pr w K mg base (L2.CX Pr w) (k + 1) f fd ["script"] (spBegun K T) := by
  refine F.okX sc (fun vs H Q E ⟨a, ns, h, _⟩ => by rw [h]; rfl) fun cdv A outer s H vs Q E hr h => ?_
  obtain ⟨a, ns, rfl, hs, hl, tT, h⟩ := h
  obtain ⟨st1, lc2, q1, q2, q3, q4, q5, q6, q7, q8, q9, eb, hst, t2, p2, hl2⟩ := hb cdv A outer s H E hr (takes_of rfl rfl rfl rfl)
  obtain ⟨t1, p1, h1⟩ := hst.ex
  have p3 := pps_cons (pos := q8) (pe_str (X := cxOf (L2.CX Pr w) Pr w K mg base ["script", "great", "cell"] qual (defScope std) f cdv A outer s H E) (pos := q1) (x := "great") (j := 0)) (pe_var (i := 1) (x := "great") (pos := q5) rfl hv (by decide) (by decide)) (pps_cons (pe_str (pos := q2) (x := "cells") (j := 0)) p2 (pps_cons (pe_str (pos := q3) (x := "left") (j := 0)) (pe_int (i := 0) (pos := q6) (j := 0)) (pps_cons (pe_str (pos := q4) (x := "turn") (j := 0)) (pe_int (i := 0) (pos := q7) (j := 0)) pps_nil)))
  refine ⟨_, by rw [eb]; exact pss_cons p1 (pss_one (ps_ret (pe_disp p3 rfl rfl (by simp) (by show (4 : Nat) ≤ 15; decide)))), ?_⟩
  let M : Fm := ⟨0, fun _ => False, fun _ => False, fun _ H => Tabs T H, H⟩
  have S0 : DSt K PN M (fun _ => none) (L2.start ["script", "great", "cell"] [V.ref a]) H [.val (.scr ns), .emp, .emp] (om0 ns) :=
    DSt.start (M := M) (N := ["script", "great", "cell"]) (n := 1) (ds := [.scr ns]) trivial (fun _ z => z) (fun ω H H' kk t => Tabs.of_keep t fun b o e ko => kk b o e (.inr ko)) tT (fun _ z => z.elim) (.cons (scr_rep hs hl fun _ z => z) .nil) rfl rfl
  refine h1 M _ _ _ _ (om0 ns) _ S0 ?_
  have e1 : sNewLc 1 eBg1 [.val (.scr ns), .emp, .emp] (om0 ns) = .ok (.nx [.val (.scr ns), .own ((om0 ns).great.map .int), .emp]) (om0 ns) := by
    unfold sNewLc
    rw [if_pos (by show (1 : Nat) < 3; decide), eBg1_run]
    rfl
  rw [e1]
  intro al' σ' H' S1 f1 x1 p hp
  obtain ⟨ga, gxs, hga, hσ, hgv, hgl, hgr⟩ := S1.ownAt (i := 1) (ds := (om0 ns).great.map .int) rfl
  have hp2 : p ≠ ga := fun z => by rw [z, hgv] at hp; cases hp
  have sm := same_upd (o := .dK []) hp
  have S2 := S1.same sm
  refine ⟨_, hσ, hl2 M al' σ' _ _ (om0 ns) _ S2 ?_⟩
  rw [eBg2_run]
  rintro v H2 S3 f3 ⟨ca, cxs, cds, rfl, hca, ed, hcv, hcl, hcr⟩
  injection ed with ed
  subst ed
  have hpd : H2 p = some (.dK []) := f3.keep _ _ upd_same (fun z => z)
  obtain ⟨ga', gxs', hga', hσ', hgv', hgl', hgr'⟩ := S3.ownAt (i := 1) (ds := (om0 ns).great.map .int) rfl
  have eg : ga' = ga := Option.some.inj (hga'.symm.trans hga)
  subst eg
  refine ⟨hpd, [(kGreat, .ref ga'), (kCells, .ref ca), (kLeft, .int 0), (kTurn, .int 0)], rfl, by show (4 : Nat) ≤ 15; decide, ?_⟩
  have n1 : ga' ≠ p := fun z => hp2 z.symm
  have n2 : ca ≠ p := fun z => by rw [z, hpd] at hcv; cases hcv
  have n3 : ga' ≠ ca := fun z => hca (z ▸ ⟨_, sm _ _ hgv, trivial⟩)
  have frH : Fr (fun _ => False) H H2 := S3.fr
  have tp : ¬ Tr H p := fun z => Tr.not hp (S1.fr.there p z)
  have tg : ¬ Tr H ga' := (S1.fresh 1 ga' hga).1
  have tc : ¬ Tr H ca := fun z => hca (S2.fr.there ca z)
  have ig := ints_of_reps hgr' (ints_of_map _)
  have ic := ints_of_reps hcr (ints_of_map _)
  refine h p ga' ca _ ⟨fun b o e ko => ?_, fun b t => ?_⟩ tp tg tc ⟨?_, ?_, ?_, n3, ?_, ?_⟩ (tabs_put hpd trivial (fun z => z trivial) S3.g)
  · have nb : b ≠ p := fun z => tp (z ▸ ⟨o, e, .of_keep ko⟩)
    rw [upd_ne nb]
    exact frH.keep b o e ko
  · by_cases nb : b = p
    · subst nb
      exact absurd t tp
    · obtain ⟨o, e, n⟩ := frH.there b t
      exact ⟨o, by rw [upd_ne nb]; exact e, n⟩
  · rw [upd_same, mergeD]
    rfl
  · rw [upd_ne n1, hgv', ig]
  · rw [upd_ne n2, hcv, ic]
  · rw [ig, List.length_map] at hgl'
    exact hgl'
  · rw [ic, List.length_map] at hcl
    exact hcl
end
end DL

namespace DL
open PySem PySem.Spec PyProof.Rows L2 LamX
/-! ### the law's own def -/
def tBegun (K : PySem.W.Frag) (T : List (Addr × Str)) (E : XK) : TE := fun σ H Q => ∃ v, σ[0]? = some (some v) ∧ spBegun K T [v] H Q E
section
variable {X : Cx} {T : List (Addr × Str)} {W : XK}
/-- state = _law_begun(script) -/
theorem ps_begun {k : Nat} {f : Addr} {fd : FuncData} {p p1 p2 p3 pos : Pos} (F : FnOk X.prog X.w X.K X.mg X.base (L2.CX X.prog X.w) k f fd ["script"] (spBegun X.K T)) (hr : Room k X.A) (hm : X.mg "_law_begun" = some (.ref f)) (hk : PySem.W.keepIn X.K (.ref f) = true) (hb : Binds X.K fd ["script"] [])
    (tk : Takes X (fun cls d _ H => W cls d H)) (hN : X.N.Nodup) (h0 : X.N[0]? = some ("script" : Str)) (h1 : X.N[1]? = some ("state" : Str)) (hv : Vis X.env.scope "script") (hx : Loc X.env.scope "state") (hf : X.fn ("state" : Str) = true ∨ X.env.scope.names.lookup ("state" : Str) = some .local) (hg : Gl X "_law_begun" := by rfl)
    (he : starEach [.Name "script" p1] X.env = [(false, eval (.Name "script" p1) X.env)] := by rfl) (hpl : (backTo p2 (starEach [] X.env)).any (·.1) = false := by rfl)
    (hs : swapsWith (.Call (.Name "_law_begun" p) [.Name "script" p1] [] p2) (some (.Name "state" p3)) pos.line X.env = pure false := by rfl) :
    PS X (.Assign [.Name "state" p3] (.Call (.Name "_law_begun" p) [.Name "script" p1] [] p2) pos) (tAsg (tBegun X.K T W) (gName 1)) := by
  have h := pe_callS (E := fun _ => W) F hr hg hm hk hb (fun σ => passAt tk σ) (pa_cons (pe_var h0 hv (by decide) (by decide)) pa_nil he) (by decide) he hpl (pos := p2) (p := p)
  refine ⟨fun pins s σ H D I q => (ps_set (i := 1) hN h1 hx h hs hf).run pins s σ H D I ?_⟩
  obtain ⟨v, e1, q⟩ := q
  exact ⟨v, e1, q⟩
end
def spLaw (K : PySem.W.Frag) (T : List (Addr × Str)) (n : Nat) (g : EvS) : Sp := fun vs H Q _ => ∃ a ns, vs = [.ref a] ∧ SqL K H a (ns.map V.int) ∧ ns.length ≤ sizeLine ∧ Tabs T H ∧
  (∃ ω', g (.val (.scr ns) :: .val .st :: List.replicate n .emp) (om0 ns) = .ok (.rt (.bl true)) ω') ∧ ∀ H', Q (.bl true) H'
section
variable {Pr : Program} {w : World} {K : PySem.W.Frag} {mg : Str → Option Value} {base : Heap} {x qual : Str} {std : Stmt} {f : Addr} {fd : FuncData} {k : Nat}
theorem law_ok {T : List (Addr × Str)} {N : List Str} {g : EvS} (F : Fun K x qual std f fd) (sc : FnScope ("script" :: "state" :: N) ["script"] (defScope std))
    (hb : ∀ (cdv : Value) (A : Around) (outer : List Env) (s : Shared) (H : Hp) (E : XK), Room k (A.deeper (envOfC qual (defScope std) s.heap.objs.size f cdv)) → Takes (cxOf (L2.CX Pr w) Pr w K mg base ("script" :: "state" :: N) qual (defScope std) f cdv A outer s H E) (fun cls d _ H => E cls d H) →
      ∃ st0 rest, defBody std = st0 :: rest ∧ PS (cxOf (L2.CX Pr w) Pr w K mg base ("script" :: "state" :: N) qual (defScope std) f cdv A outer s H E) st0 (tAsg (tBegun K T E) (gName 1)) ∧
        PSsd (cxOf (L2.CX Pr w) Pr w K mg base ("script" :: "state" :: N) qual (defScope std) f cdv A outer s H E) ⟨E, PD T⟩ rest g) :
    FnOk Pr w K mg base (L2.CX Pr w) (k + 1) f fd ["script"] (spLaw K T N.length g) := by
  refine F.okX sc (fun vs H Q E ⟨a, ns, h, _⟩ => by rw [h]; rfl) fun cdv A outer s H vs Q E hr h => ?_
  obtain ⟨a, ns, rfl, hs, hl, tT, ⟨ω', hg⟩, h⟩ := h
  obtain ⟨st0, rest, eb, p0, hrest⟩ := hb cdv A outer s H E hr (takes_of rfl rfl rfl rfl)
  obtain ⟨t, p1, q1⟩ := hrest.ex
  refine ⟨_, by rw [eb]; exact pss_cons p0 p1, ?_⟩
  refine ⟨_, rfl, a, ns, rfl, hs, hl, tT, fun sa ga ca H' fr n1 n2 n3 dg tT' => ?_⟩
  let Z : Addr → Prop := fun b => b = sa ∨ b = ga ∨ b = ca
  let M : Fm := ⟨sa, Z, Z, fun ω H => DrawG sa ga ca ω H ∧ Tabs T H, H'⟩
  have na : Tr H a → ¬ Z a := fun t z => by
    rcases z with z | z | z
    · exact n1 (z ▸ t)
    · exact n2 (z ▸ t)
    · exact n3 (z ▸ t)
  have rs : Rep K sa Z H' (.ref a) (.scr ns) := by
    have r := scr_rep (N := Z) (sa := sa) hs hl na
    exact r.mono (Z := fun _ => False) fr fun _ z => z.elim
  have S0 : DSt K (PD T) M (fun _ => none) (L2.start ("script" :: "state" :: N) [V.ref a, V.ref sa]) H' ([D.scr ns, D.st].map .val ++ List.replicate N.length .emp) (om0 ns) := by
    refine DSt.start (M := M) (n := 2) (ds := [.scr ns, .st]) ⟨ga, ca, rfl, rfl⟩ (fun _ z => z) PD.gm ⟨dg, tT'⟩ (fun b z => ?_) (.cons rs (.cons .st .nil)) rfl (by show N.length + 1 + 1 = 2 + (N.length + 1 + 1 - 2); omega)
    rcases z with z | z | z
    · rw [z]; exact ⟨_, dg.d, trivial⟩
    · rw [z]; exact ⟨_, dg.g, trivial⟩
    · rw [z]; exact ⟨_, dg.c, trivial⟩
  have es : (L2.start ("script" :: "state" :: N) [V.ref a]).set 1 (some (V.ref sa)) = L2.start ("script" :: "state" :: N) [V.ref a, V.ref sa] := by
    unfold L2.start
    rfl
  show t _ ((L2.start ("script" :: "state" :: N) [V.ref a]).set 1 (some (V.ref sa))) H'
  rw [es]
  refine q1 M _ _ _ _ (om0 ns) _ S0 ?_
  show PostS _ M _ _ (g (.val (.scr ns) :: .val .st :: List.replicate N.length .emp) (om0 ns)) _ _
  rw [hg]
  intro v H2 _ _ r
  cases r
  exact h H2
end
/-! ### what a draw is -/
def blendP (turn : Int) (cells : List Int) (prime : Int) : Int := cells.foldl (fun b c => (b * 66889 + c + turn) % prime) (46819 * turn + prime / 89)
def blendV (ω : Om) : Int := [2147481529, 2147481509, 2147481499].foldl (fun f p => f * 2147483647 + (blendP (ω.turn + 1) ω.cells p) ^ 5 % p) 0
/-- the state when something is left -/
def refill (ω : Om) : Om := if ω.left = 0 then (match ω.great with
  | g :: gs => { ω with great := gs, left := g }
  | [] => { ω with left := blendV ω, turn := ω.turn + 1 }) else ω
def drawI (n : Int) (ω : Om) : Int := (refill ω).left % n
def drawO (n : Int) (ω : Om) : Om := { refill ω with left := (refill ω).left / n }
/-- what draws may be asked of -/
structure Fine (ω : Om) : Prop where
  t0 : 0 ≤ ω.turn
  t1 : ω.turn < 2 ^ 40
end DL

namespace DL
open PySem PySem.Spec PyProof.Rows L2 LamX
/-! ### enumerate over a text -/
def Ites (x : Str) : It :=
  ⟨fun i H => i < x.cps.size, fun i H v H' => ∃ T c, v = .ref T ∧ H T = none ∧ H' = upd H T (.tup [.int (i : Nat), .str ⟨#[c]⟩]) ∧ x.cps[i]? = some c, fun i H => x.cps.size ≤ i⟩
theorem turn_enumS {P : Program} {w : World} {K : PySem.W.Frag} {elts : List Expr} {kk : Nat} {tpos : Pos} (x : Str) (t : Tok) (e it : Addr) :
    Turn P w K (.Tuple elts kk tpos) (Ites x) [e, it] e (fun i h => (∃ old, IsEnum h e it ((i : Nat) : Int) old) ∧ h.IsStrIter it (strIterType x) x t i ∧ e ≠ it ∧ i ≤ x.cps.size) where
  mem := by simp
  obj := fun i h st b hb => by
    obtain ⟨⟨old, he⟩, ⟨o, ho, hc, hd⟩, _⟩ := st
    have e' : b = e ∨ b = it := by simpa using hb
    rcases e' with z | z
    · rw [z]; exact ⟨_, he, fun v q => nomatch q⟩
    · rw [z]; exact ⟨o, ho, fun v q => by rw [hd] at q; cases q⟩
  keep := fun i h h' st k => by
    obtain ⟨⟨old, he⟩, ⟨o, ho, r⟩, hne, hi⟩ := st
    exact ⟨⟨old, k e (by simp) _ he⟩, ⟨o, k it (by simp) o ho, r⟩, hne, hi⟩
  item := by
    intro X hP hw hK hc i pins s σ H E I hf st hg
    subst hP hw hK
    obtain ⟨⟨old, he⟩, hit, hne, _⟩ := st
    have hel : e < s.heap.objs.size := Heap.lt_size he
    have hil : it < s.heap.objs.size := by obtain ⟨_, q, _⟩ := hit; exact Heap.lt_size q
    have DT := Draws.text (prog := X.prog) (w := X.w) (A := X.A.in1) (I.ok.hd hc) it x t
    refine wpAny_pyNext_enum_itemC DT he hit hg hne (by simpa using hne) fun u h' tk hu ho hit' hT hsz hk => ?_
    obtain ⟨c, tc, hcx, rfl⟩ := hu
    refine ⟨_, rfl, wpAny_letOwnedTupleGo_enum (s := { s with heap := h', toks := tk + 1 }) ho fun h'' he' sb => ?_⟩
    have hT2 : h''.get? s.heap.objs.size = some { cls := .type "tuple", data := .seq #[.int i tk, .str ⟨#[c]⟩ tc] } := (sb.2 _ (Nat.ne_of_gt hel)).trans hT
    have new : ObjOk X.prog X.w (upd H s.heap.objs.size (.tup [.int (i : Nat), .str ⟨#[c]⟩])) h'' s.heap.objs.size (.tup [.int (i : Nat), .str ⟨#[c]⟩]) :=
      ⟨by show 2 ≤ sizeLine; decide, [.int i tk, .str ⟨#[c]⟩ tc], .cons ⟨_, rfl⟩ (.cons ⟨_, rfl⟩ .nil), ⟨_, hT2, rfl, _, rfl⟩⟩
    have I1 : Inv X pins σ (upd H s.heap.objs.size (.tup [.int (i : Nat), .str ⟨#[c]⟩])) { s with heap := h'', toks := tk + 1 } :=
      I.turnedNew (ch := [e, it]) (fun b ob hb q => (sb.2 b (fun z => hb (by simp [z]))).trans (hk b ob (fun z => hb (by simp [z])) (fun z => hb (by simp [z])) q)) hf (Nat.le_refl _) new
    refine ⟨.ref s.heap.objs.size, _, I1, rfl, ⟨_, c, rfl, I.hok.fresh (Nat.le_refl _), rfl, hcx⟩, ⟨⟨.str ⟨#[c]⟩ tc, ?_⟩, ?_, hne, hg⟩, fun b hb => ?_⟩
    · have e1 : ((i + 1 : Nat) : Int) = (i : Int) + 1 := by omega
      rw [e1]; exact he'
    · obtain ⟨o, q1, q2⟩ := hit'
      exact ⟨o, (sb.2 it (Ne.symm hne)).trans q1, q2⟩
    · have hb' : b < s.heap.objs.size := by
        have e' : b = e ∨ b = it := by simpa using hb
        rcases e' with z | z
        · rw [z]; exact hel
        · rw [z]; exact hil
      rw [upd_ne (Nat.ne_of_lt hb')]
      exact (hf b hb).1
  done := by
    intro X hP hw hK hc i pins s σ H E I hf st hg
    subst hP hw hK
    obtain ⟨⟨old, he⟩, hit, hne, hi⟩ := st
    obtain ⟨f0, f1, f2, f3, f4, f5⟩ := hf it (by simp)
    have DT := Draws.text (prog := X.prog) (w := X.w) (A := X.A.in1) (I.ok.hd hc) it x t
    have ei : i = x.cps.size := Nat.le_antisymm hi hg
    rw [ei] at hit
    exact wpAny_pyNext_enum_endD DT he hit fun h' eb => ⟨rfl, I.turned (t' := s.toks) (fun b o hb q => eb b o hb q) f0 f1 f3 f4 f5⟩
  self := fun A i s Q E st h => let ⟨⟨_, he⟩, _⟩ := st; wpAny_pyIter_enum he h
end DL

namespace DL
open PySem PySem.Spec PyProof.Rows L2 LamX
section
variable {X : Cx} {W : Wt} {K : PySem.W.Frag} {M : Fm} {al : Nat → Option Addr} {σ : L2.St} {H : Hp} {δ : Sls}
variable {a b e c : Expr} {es : List Expr} {fa fb fc : EvE} {ft fu : EvT} {fs : EvA} {pos : Pos}
/-! ### walking a text -/
def signs (x : Str) : List D := x.cps.toList.map fun c => .str ⟨#[c]⟩
theorem signs_length (x : Str) : (signs x).length = x.cps.size := by
  unfold signs
  rw [List.length_map, Array.length_toList]
theorem signs_get {x : Str} {i c : Nat} (h : x.cps[i]? = some c) : (signs x)[i]? = some (.str ⟨#[c]⟩) := by
  unfold signs
  rw [List.getElem?_map, Array.getElem?_toList, h]
  rfl
def iStrD (fa : EvE) : EvI := fun δ ω => (fa δ ω).bind fun d ω1 => match d with
  | .str x => if x.length ≤ sizeLine then .ok (signs x) ω1 else .bad
  | _ => .bad
theorem itD_str {sa : Addr} {N : Addr → Prop} {x : Str} (hl : x.length ≤ sizeLine) : ItD K sa N (Its x) H (signs x) := ⟨by rw [signs_length]; exact hl, fun N' Z hn hz i H' f => by
  rw [signs_length]
  refine ⟨fun hi => ⟨hi, fun v H'' y => ?_⟩, fun hi => hi⟩
  obtain ⟨rfl, c, hc, rfl⟩ := y
  exact ⟨Same.refl _, _, signs_get hc, .str _⟩⟩
theorem id_str {tg : Expr} (h : PEd X W e fa) : PId X W tg e (iStrD fa) := by
  obtain ⟨t, p1, q1⟩ := h.ex
  refine ⟨_, pi_str p1, fun M al σ H δ ω R S h => ?_⟩
  refine q1 M al σ H δ ω _ S (post_mono (fun x H1 h1 => ?_) (post_bind (rel := relE X.K M al) h))
  obtain ⟨d1, ω1, e1, S1, f1, r1, h1⟩ := h1
  cases r1 with
  | str x =>
    dsimp only at h1
    split at h1
    · rename_i hl
      exact ⟨_, rfl, h1 _ _ S1 f1 (itD_str hl)⟩
    · exact h1.elim
  | _ => exact h1.elim
/-- enumerate(text) -/
def esigns (x : Str) : List D := x.cps.toList.zipIdx.map fun p => .tup [.int (p.2 : Nat), .str ⟨#[p.1]⟩]
theorem esigns_length (x : Str) : (esigns x).length = x.cps.size := by
  unfold esigns
  rw [List.length_map, List.length_zipIdx, Array.length_toList]
theorem esigns_get {x : Str} {i c : Nat} (h : x.cps[i]? = some c) : (esigns x)[i]? = some (.tup [.int (i : Nat), .str ⟨#[c]⟩]) := by
  unfold esigns
  rw [List.getElem?_map, List.getElem?_zipIdx, Array.getElem?_toList, h]
  simp
def iEnumS (fs : EvA) : EvI := fun δ ω => (fs δ ω).bind fun ds ω1 => match ds with
  | [.str x] => if x.length ≤ sizeLine then .ok (esigns x) ω1 else .bad
  | _ => .bad
theorem itD_enumS {sa : Addr} {N : Addr → Prop} {x : Str} (hl : x.length ≤ sizeLine) : ItD K sa N (Ites x) H (esigns x) := ⟨by rw [esigns_length]; exact hl, fun N' Z hn hz i H' f => by
  rw [esigns_length]
  refine ⟨fun hi => ⟨hi, fun v H'' y => ?_⟩, fun hi => hi⟩
  obtain ⟨T, c, rfl, hT, rfl, hc⟩ := y
  exact ⟨same_upd hT, _, esigns_get hc, .tup (SqT.of upd_same) (by show 2 ≤ sizeLine; decide) (.cons (.int _) (.cons (.str _) .nil))⟩⟩
theorem pi_enumS {ta : TA} {p tpos : Pos} {elts : List Expr} {kk : Nat} (hg : Gl X "enumerate") (hm : X.mg "enumerate" = none) (ha : PA X [e] ta) (hs : starEach [e] X.env = [(false, eval e X.env)] := by rfl) :
    PI X (.Tuple elts kk tpos) (.Call (.Name "enumerate" p) [e] [] pos) (fun σ H R => ta σ H fun vs H1 => ∃ x, vs = [.str x] ∧ R (Ites x) H1) := by
  refine ⟨fun pins s σ H R I h => ?_⟩
  refine Call_ (ld_blt I hg hm boot_enumerate (PyProof.Rows.callWith_type1 (thn (ha.run pos pins s σ H _ I h) fun us s1 ⟨vs, H1, I1, r1, q1⟩ => ?_) hs rfl))
  obtain ⟨x, ex, q⟩ := q1
  subst ex
  cases r1 with
  | cons r rr =>
    cases rr
    obtain ⟨t, rfl⟩ := r
    refine call_enumerate_str fun h' he hit hsz hk => wpAny_pyIter_enum he ?_
    have I2 : Inv X pins σ H1 { s1 with heap := h' } := I1.kept (t' := s1.toks) hk
    refine ⟨s1.heap.objs.size + 1, [s1.heap.objs.size + 1, s1.heap.objs.size], _, _, H1, rfl, I2, turn_enumS x t (s1.heap.objs.size + 1) s1.heap.objs.size, ⟨⟨.none, he⟩, hit, Nat.succ_ne_self _, Nat.zero_le _⟩, fun b hb => ?_, q⟩
    have e' : b = s1.heap.objs.size + 1 ∨ b = s1.heap.objs.size := by simpa using hb
    have hle : s1.heap.objs.size ≤ b := by
      rcases e' with z | z
      · rw [z]; exact Nat.le_add_right _ _
      · rw [z]; exact Nat.le_refl _
    exact I1.fpOk hle (I1.hok.fresh hle)
theorem id_enumS {p tpos : Pos} {elts : List Expr} {kk : Nat} (hm : X.mg "enumerate" = none) (h : PAd X W [a] fs) (hg : Gl X "enumerate" := by rfl) (hs : starEach [a] X.env = [(false, eval a X.env)] := by rfl) : PId X W (.Tuple elts kk tpos) (.Call (.Name "enumerate" p) [a] [] pos) (iEnumS fs) := by
  obtain ⟨t, p1, q1⟩ := h.ex
  refine ⟨_, pi_enumS hg hm p1 hs, fun M al σ H δ ω R S h => ?_⟩
  refine q1 M al σ H δ ω _ S (post_mono (fun x H1 h1 => ?_) (post_bind (rel := relA X.K M al) h))
  obtain ⟨d1, ω1, e1, S1, f1, r1, h1⟩ := h1
  split at h1
  · obtain ⟨v, rfl, r⟩ := r1.one
    cases r
    split at h1
    · rename_i hl
      exact ⟨_, rfl, h1 _ _ S1 f1 (itD_enumS hl)⟩
    · exact h1.elim
  · exact h1.elim
/-! ### a text from behind -/
def revS (x : Str) : Str := ⟨x.cps.toList.reverse.toArray⟩
theorem rev_pick (x : Str) : ((Builtin.Str.strSliceIndices none none (-1) x.length).filterMap (x.cps[·]?)).toArray = x.cps.toList.reverse.toArray := by
  have e : Builtin.Str.strSliceIndices none none (-1) x.length = (List.range x.length).reverse := by
    rw [← PySem.W.krv_range, ← PySem.W.krv_sliceRange]
    rfl
  rw [e, List.filterMap_reverse]
  exact congrArg List.toArray (congrArg List.reverse (PySem.W.krv_all x.cps))
def eRevS (fa : EvE) : EvE := fun δ ω => (fa δ ω).bind fun d ω1 => match d with
  | .str x => if x.length ≤ sizeLine then .ok (.str (revS x)) ω1 else .bad
  | _ => .bad
theorem pe_revS {te : TE} {k : Nat} {p1 p2 p3 : Pos} (he : PE X e te) : PE X (.Subscript e (.Slice none none (some (.UnaryOp .USub (.Constant (.int 1) k p1) p2)) p3) pos) (fun σ H Q => te σ H fun x H1 => ∃ z, x = .str z ∧ z.length ≤ sizeLine ∧ Q (.str (revS z)) H1) := by
  refine ⟨fun pins s σ H Q I h => ?_⟩
  refine Subscript_ (thn (he.run pins s σ H _ I h) fun v s1 ⟨x, H1, I1, r1, q1⟩ => ?_)
  obtain ⟨z, ex, hz, q⟩ := q1
  subst ex
  obtain ⟨t, rfl⟩ := r1
  have hst : PO X (some (.UnaryOp .USub (.Constant (.int 1) k p1) p2)) (tPart (tUn (rU fun i => .int (-i)) (tC (.int 1)))) := po_some (pe_un un_neg pe_int)
  refine wpAny_Slice (thn (po_none.run pins s1 σ H1 (fun o H2 => o = none ∧ H2 = H1) I1 ⟨rfl, rfl⟩) fun vl s2 ⟨l, H2, I2, pl, el, e2⟩ => ?_)
  subst el e2
  refine thn (po_none.run pins s2 σ H2 (fun o H3 => o = none ∧ H3 = H2) I2 ⟨rfl, rfl⟩) fun vu s3 ⟨u, H3, I3, pu, eu, e3⟩ => ?_
  subst eu e3
  refine thn (hst.run pins s3 σ H3 (fun o H4 => o = some (-1) ∧ H4 = H3) I3 ⟨1, rfl, -1, rfl, rfl, rfl⟩) fun vs s4 ⟨o, H4, I4, ps, eo, e4⟩ => ?_
  subst eo e4
  have I5 : Inv X pins σ H4 { s4 with heap := s4.heap.push { cls := .type "slice", data := .fields #[vl, vu, vs] } } := I4.kept (t' := s4.toks) fun b ob q => Heap.get?_push_of_some _ q
  show wpAny (model X.prog X.w) X.A (subscriptTail e (.Slice none none (some (.UnaryOp .USub (.Constant (.int 1) k p1) p2)) p3) (.str z t) (.ref s4.heap.objs.size)) (EP X pins σ Q) X.xe { s4 with heap := s4.heap.push { cls := .type "slice", data := .fields #[vl, vu, vs] } }
  refine tail_any (ops := [.str z t, .ref s4.heap.objs.size]) (typeIs_str _ _ _) (PySem.F.slot_str_getitem.lookup) ?_ (by with_unfolding_all rfl)
  obtain ⟨l, rfl, hl⟩ := IsPart.raw pl
  obtain ⟨u, rfl, hu⟩ := IsPart.raw pu
  obtain ⟨w, rfl, hw⟩ := IsPart.raw ps
  refine wpAny_getItem_str_slice (l := l) (u := u) (st := w) ⟨_, Heap.get?_push_size _ rfl, rfl, rfl⟩ (by rw [hw]; rfl) ?_
  unfold sliceMade slicePicked
  rw [hl, hu, hw]
  rw [if_neg (by simp)]
  have e5 : (((Builtin.Str.strSliceIndices none none ((some (-1) : Option Int).getD 1) z.length).filterMap (z.cps[·]?)).toArray) = z.cps.toList.reverse.toArray := rev_pick z
  rw [e5]
  have hz2 : z.cps.size ≤ sizeLine := hz
  exact ⟨by show (z.cps.toList.reverse.toArray).size ≤ sizeLine; simpa using hz2, .str (revS z), H4, I5.tok _, ⟨_, rfl⟩, q⟩
theorem pd_revS {k : Nat} {p1 p2 p3 : Pos} (he : PEd X W e fa) : PEd X W (.Subscript e (.Slice none none (some (.UnaryOp .USub (.Constant (.int 1) k p1) p2)) p3) pos) (eRevS fa) := by
  obtain ⟨t, p, q⟩ := he.ex
  refine ⟨_, pe_revS p, fun M al σ H δ ω Q S h => ?_⟩
  refine q M al σ H δ ω _ S (post_mono (fun x H1 h1 => ?_) (post_bind (rel := relE X.K M al) h))
  obtain ⟨d1, ω1, e1, S1, f1, r1, h1⟩ := h1
  cases r1 with
  | str x =>
    dsimp only at h1
    split at h1
    · rename_i hl
      exact ⟨_, rfl, hl, h1 _ _ S1 f1 (.str _)⟩
    · exact h1.elim
  | _ => exact h1.elim
/-! ### a op b op c -/
def eChain (g g' : D → D → Option D) (fa fb fc : EvE) : EvE := fun δ ω => (fa δ ω).bind fun a ω1 => (fb δ ω1).bind fun b ω2 => match g a b with
  | some (.bl true) => (fc δ ω2).bind fun c ω3 => rs1 (g' b c) ω3
  | some (.bl false) => .ok (.bl false) ω2
  | _ => .bad
theorem pd_chain {op op' : CmpOp} {r r' : R2} {g g' : D → D → Option D} (ho : OpR X (compareOp op) r) (ho' : OpR X (compareOp op') r') (hg : Op2 X.K r g) (hg' : Op2 X.K r' g') (ha : PEd X W a fa) (hb : PEd X W b fb) (hc : PEd X W c fc)
    (hm : lastMarks [op, op'] [b, c] = false := by with_unfolding_all rfl) : PEd X W (.Compare a [op, op'] [b, c] pos) (eChain g g' fa fb fc) := by
  obtain ⟨ta, p1, q1⟩ := ha.ex
  obtain ⟨tb, p2, q2⟩ := hb.ex
  obtain ⟨tc, p3, q3⟩ := hc.ex
  refine ⟨_, pe_chain ho ho' p1 p2 p3 hm, fun M al σ H δ ω Q S h => ?_⟩
  refine q1 M al σ H δ ω _ S (post_mono (fun x H1 h1 => ?_) (post_bind (rel := relE X.K M al) h))
  obtain ⟨d1, ω1, _, S1, f1, r1, h1⟩ := h1
  refine q2 M al σ H1 δ ω1 _ S1 (post_mono (fun y H2 h2 => ?_) (post_bind (rel := relE X.K M al) (post_from f1 h1)))
  obtain ⟨d2, ω2, _, S2, f2, r2, h2⟩ := h2
  split at h2
  · rename_i eg
    refine hg.ok M.sa (NA M.N al) H2 x y d1 d2 _ _ (r1.mono f2 S1.zna) r2 eg S2.naT fun v H3 sm rv => ?_
    cases rv
    refine ⟨true, rfl, ?_⟩
    rw [if_pos rfl]
    refine q3 M al σ H3 δ ω2 _ (S2.same sm) (post_mono (fun z H4 h4 => ?_) (post_bind (rel := relE X.K M al) (post_from (f2.trans (.same sm)) h2)))
    obtain ⟨d3, ω3, _, S4, f4, r3, h4⟩ := h4
    unfold rs1 at h4
    split at h4
    · rename_i d e
      exact hg'.ok M.sa (NA M.N al) H4 y z d2 d3 d Q ((same_rep sm r2).mono f4 S2.zna) r3 e S4.naT fun v H' s q => h4 v H' (S4.same s) (f4.trans (.same s)) q
    · exact h4.elim
  · rename_i eg
    refine hg.ok M.sa (NA M.N al) H2 x y d1 d2 _ _ (r1.mono f2 S1.zna) r2 eg S2.naT fun v H3 sm rv => ?_
    cases rv
    refine ⟨false, rfl, ?_⟩
    rw [if_neg (by decide)]
    exact h2 _ H3 (S2.same sm) (f2.trans (.same sm)) (.bl false)
  · exact h2.elim
/-! ### texts -/
def gLeS : D → D → Option D
  | .str i, .str j => some (.bl (!decide (j.cps.toList < i.cps.toList)))
  | _, _ => none
theorem o_leS : Op2 K (fun x y H Q => ∃ i j, x = .str i ∧ y = .str j ∧ Q (.bl (!decide (j.cps.toList < i.cps.toList))) H) gLeS := ⟨fun sa N H x y a b d Q ra rb e nt k => by
  unfold gLeS at e
  split at e
  · cases ra
    cases rb
    cases e
    exact ⟨_, _, rfl, rfl, k _ _ (Same.refl _) (.bl _)⟩
  · cases e⟩
/-- x in text, x one sign -/
def gInS (neg : Bool) : D → D → Option D
  | .str x, .str z => match x.cps.toList with
    | [c] => some (.bl (if neg then !decide (c ∈ z.cps.toList) else decide (c ∈ z.cps.toList)))
    | _ => none
  | _, _ => none
theorem one_sign {x : Str} {c : Nat} (h : x.cps.toList = [c]) : x = ⟨#[c]⟩ := by
  obtain ⟨cps⟩ := x
  have : cps = #[c] := by
    apply Array.toList_inj.mp
    exact h
  rw [this]
theorem o_inS : Op2 K (fun x y H Q => ∃ (c : Nat) (z : Str), x = .str ⟨#[c]⟩ ∧ y = .str z ∧ Q (.bl (decide (c ∈ z.cps.toList))) H) (gInS false) := ⟨fun sa N H x y a b d Q ra rb e nt k => by
  unfold gInS at e
  split at e
  · split at e
    · rename_i c hc
      cases ra
      cases rb
      cases e
      exact ⟨c, _, by rw [one_sign hc], rfl, k _ _ (Same.refl _) (.bl _)⟩
    · cases e
  · cases e⟩
theorem o_notInS : Op2 K (fun x y H Q => ∃ (c : Nat) (z : Str), x = .str ⟨#[c]⟩ ∧ y = .str z ∧ Q (.bl (!decide (c ∈ z.cps.toList))) H) (gInS true) := ⟨fun sa N H x y a b d Q ra rb e nt k => by
  unfold gInS at e
  split at e
  · split at e
    · rename_i c hc
      cases ra
      cases rb
      cases e
      exact ⟨c, _, by rw [one_sign hc], rfl, k _ _ (Same.refl _) (.bl _)⟩
    · cases e
  · cases e⟩
/-- text * n -/
def mulS (x : Str) (n : Nat) : Str := ⟨(List.replicate n x.cps.toList).flatten.toArray⟩
end
end DL

namespace DL
open PySem PySem.Spec PyProof.Rows L2 LamX
section
variable {X : Cx} {W : Wt} {K : PySem.W.Frag} {M : Fm} {al : Nat → Option Addr} {σ : L2.St} {H : Hp} {δ : Sls}
variable {a b e c : Expr} {es : List Expr} {fa fb fc : EvE} {ft fu : EvT} {fs : EvA} {pos : Pos}
/-! ### text * n -/
theorem foldl_app (acc xs : Array Nat) : ∀ n : Nat, ((List.replicate n xs).foldl (· ++ ·) acc).toList = acc.toList ++ (List.replicate n xs.toList).flatten
  | 0 => by simp
  | n + 1 => by
    rw [List.replicate_succ, List.foldl_cons, foldl_app (acc ++ xs) xs n, List.replicate_succ, List.flatten_cons]
    simp
theorem mulS_eq (x : Str) (n : Nat) : (⟨(List.replicate n x.cps).foldl (· ++ ·) #[]⟩ : Str) = mulS x n := by
  unfold mulS
  have h := foldl_app #[] x.cps n
  congr 1
  apply Array.toList_inj.mp
  rw [h]
  simp
theorem mulS_length (x : Str) (n : Nat) : (mulS x n).length = n * x.length := by
  show ((List.replicate n x.cps.toList).flatten.toArray).size = _
  rw [List.size_toArray, List.length_flatten]
  simp [Str.length]
def gMulS : D → D → Option D
  | .str x, .int n => if 0 ≤ n ∧ n < 2 ^ 24 ∧ x.length * n.toNat ≤ sizeLine then some (.str (mulS x n.toNat)) else none
  | _, _ => none
theorem op_mulS : OpR X (binaryOp .Mult) (fun x y H Q => ∃ (z : Str) (n : Int), x = .str z ∧ y = .int n ∧ 0 ≤ n ∧ n < 2 ^ 24 ∧ z.length * n.toNat ≤ sizeLine ∧ Q (.str (mulS z n.toNat)) H) := by
  intro pins s σ H x y v u Q I rx ry h
  obtain ⟨z, n, rfl, rfl, h0, h1, hl, q⟩ := h
  obtain ⟨t, rfl⟩ := rx
  obtain ⟨t', rfl⟩ := ry
  have h2 : ¬ n < -(2 ^ 63 : Int) := by omega
  have h3 : ¬ n ≥ 2 ^ 63 := by omega
  refine P.mul_str (by rw [decide_eq_false h2, decide_eq_false h3]; rfl) (fun hn _ => ?_) (fun hn _ => ?_) ?_
  · have : (z.length : Int) * n ≤ sizeLine := by
      have e : ((z.length * n.toNat : Nat) : Int) ≤ (sizeLine : Nat) := Int.ofNat_le.mpr hl
      rw [Int.natCast_mul, Int.toNat_of_nonneg h0] at e
      exact e
    have e2 : (sizeLine : Int) = 16777216 := by
      have : sizeLine = 16777216 := by decide
      rw [this]; rfl
    have h4 : (z.length : Int) ≤ (2 ^ 63 - 1) / n := by
      refine (Int.le_ediv_iff_mul_le (by omega)).mpr ?_
      omega
    omega
  · unfold Builtin.Str.tooLong
    exact decide_eq_false (by omega)
  · by_cases hn : n < 1
    · rw [if_pos hn]
      have e : n = 0 := by omega
      subst e
      have e2 : mulS z (0 : Int).toNat = Str.empty := rfl
      rw [e2] at q
      exact ⟨by decide, .str Str.empty, H, I.tok _, ⟨_, rfl⟩, q⟩
    · rw [if_neg hn]
      by_cases hc : (n == 1 || z.length == 0) = true
      · rw [if_pos hc]
        have e : mulS z n.toNat = z := by
          rcases Bool.or_eq_true_iff.mp hc with h | h
          · have : n = 1 := by simpa using h
            subst this
            obtain ⟨cps⟩ := z
            simp [mulS]
          · have : z.cps.size = 0 := by simpa [Str.length] using h
            obtain ⟨cps⟩ := z
            have : cps = #[] := Array.eq_empty_of_size_eq_zero this
            subst this
            simp [mulS]
        rw [e] at q
        exact ⟨.str z, H, I, ⟨t, rfl⟩, q⟩
      · rw [if_neg hc, mulS_eq]
        exact ⟨by rw [mulS_length, Nat.mul_comm]; exact hl, .str _, H, I.tok _, ⟨_, rfl⟩, q⟩
theorem o_mulS : Op2 K (fun x y H Q => ∃ (z : Str) (n : Int), x = .str z ∧ y = .int n ∧ 0 ≤ n ∧ n < 2 ^ 24 ∧ z.length * n.toNat ≤ sizeLine ∧ Q (.str (mulS z n.toNat)) H) gMulS := ⟨fun sa N H x y a b d Q ra rb e nt k => by
  unfold gMulS at e
  split at e
  · cases ra
    cases rb
    split at e
    · rename_i hc
      cases e
      exact ⟨_, _, rfl, rfl, hc.1, hc.2.1, hc.2.2, k _ _ (Same.refl _) (.str _)⟩
    · cases e
  · cases e⟩
/-! ### methods of texts -/
def gSplit : D → List D → Option D
  | .str a, [.str b] => if (b.length == 0) = false ∧ a.length + 2 ≤ sizeLine then some (.lst ((Txt.split a b).map .str)) else none
  | _, _ => none
theorem strs_reps {sa : Addr} {N : Addr → Prop} : ∀ ys : List Str, Reps K sa N H (ys.map V.str) (ys.map D.str)
  | [] => .nil
  | y :: r => .cons (.str y) (strs_reps r)
theorem o_split (sa : Addr) (N : Addr → Prop) (H : Hp) (x : V) (a : D) (xs : List V) (as : List D) (d : D) (Q : VK) (r1 : Rep K sa N H x a) (r2 : Reps K sa N H xs as) (e : gSplit a as = some d) (nt : ∀ b, N b → Tr H b) (k : ∀ v H', Same H H' → Rep K sa N H' v d → Q v H') :
    ∃ a b, x = .str a ∧ xs = [.str b] ∧ (b.length == 0) = false ∧ a.length + 2 ≤ sizeLine ∧ rNewStrs (Txt.split a b) H Q := by
  unfold gSplit at e
  split at e
  · rename_i a b
    split at e
    · rename_i hc
      cases e
      cases r1
      obtain ⟨v, rfl, r3⟩ := r2.one
      cases r3
      refine ⟨_, _, rfl, rfl, hc.1, hc.2, fun p hp => k _ _ (same_upd hp) (new_ok nt hp ?_ (strs_reps _))⟩
      rw [List.length_map]
      exact Nat.le_trans (PyProof.Rows.split_le a b) hc.2
    · cases e
  · cases e
def strsOf : List D → Option (List Str)
  | [] => some []
  | .str b :: ds => (strsOf ds).map (b :: ·)
  | _ => none
theorem strs_of_reps {sa : Addr} {N : Addr → Prop} {H : Hp} : ∀ {xs : List V} {ds : List D} {bs : List Str}, Reps K sa N H xs ds → strsOf ds = some bs → xs = bs.map V.str
  | _, _, _, .nil, e => by cases e; rfl
  | _, _, _, .cons (d := .str b) (ds := ds) r rs, e => by
    unfold strsOf at e
    cases q : strsOf ds with
    | none => rw [q] at e; cases e
    | some bs =>
      rw [q] at e
      cases e
      cases r
      rw [strs_of_reps rs q]
      rfl
  | _, _, _, .cons (d := .non) r rs, e => by cases e
  | _, _, _, .cons (d := .bl _) r rs, e => by cases e
  | _, _, _, .cons (d := .int _) r rs, e => by cases e
  | _, _, _, .cons (d := .tup _) r rs, e => by cases e
  | _, _, _, .cons (d := .lst _) r rs, e => by cases e
  | _, _, _, .cons (d := .scr _) r rs, e => by cases e
  | _, _, _, .cons (d := .st) r rs, e => by cases e
  | _, _, _, .cons (d := .exc _ _) r rs, e => by cases e
  | _, _, _, .cons (d := .ty _) r rs, e => by cases e
  | _, _, _, .cons (d := .glo _) r rs, e => by cases e
def gJoin : D → List D → Option D
  | .str a, [.lst ds] => (strsOf ds).bind fun ys => if (ys.map (·.length)).sum + ys.length * a.length ≤ 16777216 then some (.str (Txt.join a ys)) else none
  | .str a, [.tup ds] => (strsOf ds).bind fun ys => if (ys.map (·.length)).sum + ys.length * a.length ≤ 16777216 then some (.str (Txt.join a ys)) else none
  | _, _ => none
theorem o_join (sa : Addr) (N : Addr → Prop) (H : Hp) (x : V) (a : D) (xs : List V) (as : List D) (d : D) (Q : VK) (r1 : Rep K sa N H x a) (r2 : Reps K sa N H xs as) (e : gJoin a as = some d) (nt : ∀ b, N b → Tr H b) (k : ∀ v H', Same H H' → Rep K sa N H' v d → Q v H') :
    ∃ a p, ∃ ys : List Str, x = .str a ∧ xs = [.ref p] ∧ (SqL K H p (ys.map V.str) ∨ SqT K H p (ys.map V.str)) ∧ (ys.map (·.length)).sum + ys.length * a.length ≤ 16777216 ∧ Q (.str (Txt.join a ys)) H := by
  unfold gJoin at e
  split at e
  · rename_i a ds
    cases q : strsOf ds with
    | none => rw [q] at e; cases e
    | some ys =>
      rw [q] at e
      simp only [Option.bind_some] at e
      split at e
      · rename_i hc
        cases e
        cases r1
        obtain ⟨v, rfl, r3⟩ := r2.one
        cases r3 with
        | lst h n l r =>
          rw [strs_of_reps r q] at h
          exact ⟨_, _, ys, rfl, rfl, .inl (SqL.of h), hc, k _ _ (Same.refl _) (.str _)⟩
      · cases e
  · rename_i a ds
    cases q : strsOf ds with
    | none => rw [q] at e; cases e
    | some ys =>
      rw [q] at e
      simp only [Option.bind_some] at e
      split at e
      · rename_i hc
        cases e
        cases r1
        obtain ⟨v, rfl, r3⟩ := r2.one
        cases r3 with
        | tup h l r =>
          rw [strs_of_reps r q] at h
          exact ⟨_, _, ys, rfl, rfl, .inr h, hc, k _ _ (Same.refl _) (.str _)⟩
      · cases e
  · cases e
/-- text.index(sign), where it is there -/
def gIndex : D → List D → Option D
  | .str a, [.str b] => match Builtin.Str.occurrences a b 0 a.length 1 with
    | k :: _ => some (.int (k : Nat))
    | [] => none
  | _, _ => none
theorem mt_index0 : MtR X "str.index" (fun x xs H Q => ∃ a b k r, x = .str a ∧ xs = [.str b] ∧ Builtin.Str.occurrences a b 0 a.length 1 = k :: r ∧ Q (.int (k : Nat)) H) := by
  intro pins s σ H x xs v us Q I rx rs h
  obtain ⟨a, b, k, r, rfl, rfl, hk, q⟩ := h
  obtain ⟨t, rfl⟩ := rx
  cases rs with
  | cons r1 rs =>
    cases rs
    obtain ⟨u, rfl⟩ := r1
    exact PySem.SC.index hk ⟨.int (k : Nat), H, I.tok _, ⟨_, rfl⟩, q⟩
theorem o_index (sa : Addr) (N : Addr → Prop) (H : Hp) (x : V) (a : D) (xs : List V) (as : List D) (d : D) (Q : VK) (r1 : Rep K sa N H x a) (r2 : Reps K sa N H xs as) (e : gIndex a as = some d) (nt : ∀ b, N b → Tr H b) (k : ∀ v H', Same H H' → Rep K sa N H' v d → Q v H') :
    ∃ a b k r, x = .str a ∧ xs = [.str b] ∧ Builtin.Str.occurrences a b 0 a.length 1 = k :: r ∧ Q (.int (k : Nat)) H := by
  unfold gIndex at e
  split at e
  · rename_i a b
    cases q : Builtin.Str.occurrences a b 0 a.length 1 with
    | nil => rw [q] at e; cases e
    | cons k' r' =>
      rw [q] at e
      cases e
      cases r1
      obtain ⟨v, rfl, r3⟩ := r2.one
      cases r3
      exact ⟨_, _, _, _, rfl, rfl, q, k _ _ (Same.refl _) (.int _)⟩
  · cases e
/-! ### isinstance -/
inductive Cn where
  | ty (n : String)
  | own (x : Str)
deriving DecidableEq
def Cn.v (K : PySem.W.Frag) : Cn → Value
  | .ty n => .type n
  | .own x => .ref (He.ga K x)
def tyD : D → Option Cn
  | .non => some (.ty "NoneType")
  | .bl _ => some (.ty "bool")
  | .int _ => some (.ty "int")
  | .str _ => some (.ty "str")
  | .tup _ => some (.ty "tuple")
  | .lst _ => some (.ty "list")
  | .scr _ => some (.ty "list")
  | .exc c [] => some (.own c)
  | _ => none
def clD : D → Option Cn
  | .ty n => some (.ty n)
  | .glo x => some (.own x)
  | _ => none
def gIsc (kb : List (Cn × Cn × Bool)) : List D → Option D
  | [d, c] => match tyD d, clD c with
    | some t, some u => ((kb.find? fun p => decide (p.1 = t ∧ p.2.1 = u)).map (·.2.2)).map .bl
    | _, _ => none
  | _ => none
/-- what the head is to tell of the classes -/
def kbOk (K : PySem.W.Frag) (kb : List (Cn × Cn × Bool)) : Bool := kb.all fun p => decide (PySem.W.kitOne K (p.1.v K) (p.2.1.v K) = some p.2.2)
def excOk (K : PySem.W.Frag) (cs : List Str) : Bool := cs.all fun c =>
  decide (PySem.W.findIn K (.ref (He.ga K c)) "__getattribute__" = some (some (.builtin "BaseException.__getattribute__"))) && decide (PySem.W.findIn K (.ref (He.ga K c)) "__getattr__" = some none) && decide (PySem.W.subIn K (.ref (He.ga K c)) (.type "BaseException") = some true) &&
  PySem.W.hasDictIn K (He.ga K c) && decide (PySem.W.findIn K (.ref (He.ga K c)) "__class__" = some (some (.builtin "object.__class__"))) && decide (PySem.W.specialIn K (.builtin "object.__class__") "__get__" = some (some (.builtin "getset_descriptor.__get__"))) &&
  decide (PySem.W.takesIn K (.builtin "object.__class__") = some true) && decide (PySem.W.mroIn K (He.ga K c) (.type "object") = some true)
theorem excOk_of {cs : List Str} {c : Str} (h : excOk K cs = true) (hc : c ∈ cs) : ExcC K (He.ga K c) := by
  have q := List.all_eq_true.mp h c hc
  simp only [Bool.and_eq_true, decide_eq_true_eq] at q
  obtain ⟨⟨⟨⟨⟨⟨⟨h1, h2⟩, h3⟩, h4⟩, h5⟩, h6⟩, h7⟩, h8⟩ := q
  exact ⟨h1, h2, h3, h4, h5, h6, h7, h8⟩
/-- isinstance of an exception that is held -/
def rIsX (K : PySem.W.Frag) : List V → Hp → VK → Prop := fun xs H Q => ∃ (a D : Addr) (c : V) (u : Value) (b : Bool), xs = [.ref a, c] ∧ ClsV c u ∧ H a = some (ExV (.ref D) none a) ∧ ExcC K D ∧ PySem.W.kitOne K (.ref D) u = some b ∧ Q (.bl b) H
theorem call_isx : CallR X (.builtin "isinstance") (rIsX X.K) := by
  intro pins s σ H xs us Q I r h
  obtain ⟨a, D, c, u, b, rfl, k, hx, C, e, q⟩ := h
  obtain ⟨u1, u2, rfl, r1, r2⟩ := vals2 r
  have e2 := k.eq r2
  subst e2
  cases (show u1 = Value.ref a from r1)
  obtain ⟨oe, vs, h1, h2, h3⟩ := (show ∃ (oe : Obj) (vs : Array Value), s.heap.get? a = some oe ∧ Zc (.ref D) none oe ∧ oe.data = .fields vs from (show ObjOk X.prog X.w H s.heap a (ExV (.ref D) none a) from I.hok a _ hx).1)
  have J : PySem.W.InstAt s.heap a oe D none := by
    obtain ⟨oc, od, oda, osl⟩ := oe
    obtain ⟨g1, g2⟩ := h2
    dsimp only at g1 g2 h3
    subst g1 g2 h3
    exact ⟨h1, rfl, rfl, trivial⟩
  exact PySem.W.kia_one (PySem.W.handS_kitx_exc C.hg C.hk C.hs C.hd C.ha C.hn C.ht C.hm) I.kIn J e (fun z => nomatch z) fun tk => ⟨.bl b, H, I.kept (t' := tk) fun _ _ z => z, rfl, q⟩
theorem clD_cls {sa : Addr} {N : Addr → Prop} {v : V} {d : D} {t : Cn} (r : Rep K sa N H v d) (h : clD d = some t) : ClsV v (t.v K) := by
  unfold clD at h
  split at h
  · cases h
    cases r
    exact .ty _
  · cases h
    cases r
    exact .own _
  · cases h
theorem o_isc {kb : List (Cn × Cn × Bool)} {cs : List Str} (hk : kbOk K kb = true) (hc : excOk K cs = true) (hcs : ∀ p ∈ kb, ∀ c, p.1 = .own c → c ∈ cs) : OpN K (fun xs H Q => rIsi K xs H Q ∨ rIsX K xs H Q) (gIsc kb) := ⟨fun sa N H xs as d Q r e nt k => by
  unfold gIsc at e
  split at e
  · rename_i d c
    obtain ⟨v, w, rfl, r1, r2⟩ := r.two
    split at e
    · rename_i t u ht hu
      cases q : kb.find? fun p => decide (p.1 = t ∧ p.2.1 = u) with
      | none => rw [q] at e; cases e
      | some p =>
        rw [q] at e
        cases e
        have hp := List.find?_some q
        have hm := List.mem_of_find?_eq_some q
        simp only [decide_eq_true_eq] at hp
        obtain ⟨e1, e2⟩ := hp
        have hkit := of_decide_eq_true (List.all_eq_true.mp hk p hm)
        rw [e1, e2] at hkit
        have hcl := clD_cls r2 hu
        have key : ∀ tv : Value, TyX K H v tv → tv = t.v K → (rIsi K [v, w] H Q ∨ rIsX K [v, w] H Q) := fun tv ty et => by
          subst et
          exact .inl ⟨v, w, _, _, _, rfl, hcl, ty, hkit, k _ _ (Same.refl _) (.bl _)⟩
        cases r1 with
        | non => cases ht; exact key _ (.base .non) rfl
        | bl b => cases ht; exact key _ (.base (.bl b)) rfl
        | int i => cases ht; exact key _ (.base (.int i)) rfl
        | str x => cases ht; exact key _ (.base (.str x)) rfl
        | tup h l r =>
          cases ht
          rcases h with (h | ⟨o, h⟩) | ⟨o, its, n, h1, h2, _⟩
          · exact key _ (.base (.tup h)) rfl
          · exact key _ (.fTuple h) rfl
          · exact key _ (.kTuple h1 h2) rfl
        | lst h n l r => cases ht; exact key _ (.base (.lst h)) rfl
        | scr h l =>
          cases ht
          rcases h with ⟨o, h⟩ | ⟨o, its, n, h1, h2, _⟩
          · exact key _ (.base (.frz h)) rfl
          · exact key _ (.kList h1 h2) rfl
        | scrL h n l => cases ht; exact key _ (.base (.lst h)) rfl
        | st => cases ht
        | ty n => cases ht
        | glo x => cases ht
        | exc0 h =>
          cases ht
          exact .inr ⟨_, _, _, _, _, rfl, hcl, h, excOk_of hc (hcs p hm _ e1), hkit, k _ _ (Same.refl _) (.bl _)⟩
        | exc1 _ _ _ => cases ht
    · cases e
  · cases e⟩
theorem c_isc : CallR X (.builtin "isinstance") (fun xs H Q => rIsi X.K xs H Q ∨ rIsX X.K xs H Q) := call_isi.or call_isx
end
end DL

namespace DL
open PySem PySem.Spec PyProof.Rows L2 LamX
/-! ### what a caller knows of a def -/
structure Cal (Pr : Program) (w : World) (K : PySem.W.Frag) (mg : Str → Option Value) (base : Heap) (x : Str) (k : Nat) (ps : List Str) (P : PP) (fn : List D → Om → Rs D) : Prop where
  ex : ∃ fd, FnOk Pr w K mg base (L2.CX Pr w) k (He.ga K x) fd ps (spD K P ps.length fn) ∧ Binds K fd ps [] ∧ ∃ oc od osl, K.lookup (He.ga K x) = some ⟨oc, od, .func fd, osl⟩
  hm : mg x = some (.ref (He.ga K x))
  hk : PySem.W.keepIn K (.ref (He.ga K x)) = true
structure CalK (Pr : Program) (w : World) (K : PySem.W.Frag) (mg : Str → Option Value) (base : Heap) (x : Str) (k : Nat) (ps : List Str) (P : PP) (fn : List D → Om → Rs D) : Prop extends Cal Pr w K mg base x k ps P fn where
  kw : ∃ fd, FnOk Pr w K mg base (L2.CX Pr w) k (He.ga K x) fd ps (spD K P ps.length fn) ∧ KBn K fd ps 0 ps (fun _ ws => ws) (fun _ zs => zs)
theorem spD.mono {K : PySem.W.Frag} {P : PP} {n : Nat} {fn fn' : List D → Om → Rs D} (h : ∀ ds ω, fn' ds ω ≠ .bad → fn ds ω = fn' ds ω) {vs : List V} {H : Hp} {Q : VK} {E : XK} (s : spD K P n fn' vs H Q E) : spD K P n fn vs H Q E := by
  obtain ⟨hl, M, ds, ω, e, pp, zn, gm, gG, nt, r, q⟩ := s
  refine ⟨hl, M, ds, ω, e, pp, zn, gm, gG, nt, r, ?_⟩
  rw [h ds ω (fun z => by rw [z] at q; exact q)]
  exact q
theorem fnOk_imp {P : Program} {w : World} {K : PySem.W.Frag} {mg : Str → Option Value} {base : Heap} {CX : CXT} {k : Nat} {f : Addr} {fd : FuncData} {ps : List Str} {sp sp' : Sp} (F : FnOk P w K mg base CX k f fd ps sp) (h : ∀ vs H Q E, sp' vs H Q E → sp vs H Q E) : FnOk P w K mg base CX k f fd ps sp' :=
  ⟨fun vs H Q E s => F.len vs H Q E (h vs H Q E s), fun A outer s H args us vs Q E hr e0 hb r hsp => F.run A outer s H args us vs Q E hr e0 hb r (h vs H Q E hsp)⟩
section
variable {Pr : Program} {w : World} {K : PySem.W.Frag} {mg : Str → Option Value} {base : Heap} {x : Str} {k : Nat} {ps : List Str} {P : PP} {fn fn' : List D → Om → Rs D}
theorem Cal.as (c : Cal Pr w K mg base x k ps P fn) (h : ∀ ds ω, fn' ds ω ≠ .bad → fn ds ω = fn' ds ω) : Cal Pr w K mg base x k ps P fn' := by
  obtain ⟨fd, F, B, L⟩ := c.ex
  exact ⟨⟨fd, fnOk_imp F fun vs H Q E s => s.mono h, B, L⟩, c.hm, c.hk⟩
theorem CalK.asK (c : CalK Pr w K mg base x k ps P fn) (h : ∀ ds ω, fn' ds ω ≠ .bad → fn ds ω = fn' ds ω) : CalK Pr w K mg base x k ps P fn' := by
  obtain ⟨fd, F, B⟩ := c.kw
  exact ⟨c.toCal.as h, ⟨fd, fnOk_imp F fun vs H Q E s => s.mono h, B⟩⟩
/-- a def of the text, by its body -/
theorem cal_of {st : Stmt} {qual : Str} {N : List Str} {g : EvS} {fd : FuncData} (F : FunD K x qual (defArgs st) (defBody st) (defScope st) [] [] (He.ga K x) fd) (hm : mg x = some (.ref (He.ga K x))) (sc : FnScope N ps (defScope st)) (hN : N.length = ps.length + (N.length - ps.length))
    (hb : ∀ (cdv : Value), cdv = .ref (He.codeOf K (x, none)) → ∀ (A : Around) (outer : List Env) (s : Shared) (H : Hp) (E : XK), Room k (A.deeper (envOfC qual (defScope st) s.heap.objs.size (He.ga K x) cdv)) → Takes (cxOf (L2.CX Pr w) Pr w K mg base N qual (defScope st) (He.ga K x) cdv A outer s H E) (fun cls d _ H => E cls d H) →
      PSsd (cxOf (L2.CX Pr w) Pr w K mg base N qual (defScope st) (He.ga K x) cdv A outer s H E) ⟨E, P⟩ (defBody st) g)
    (bd : ∀ (kV doc pm : Value) (an : Option Addr) (cdv ct : Value) (us : List Value), us.length = ps.length → bindArgs (PySem.W.fnOf x qual (defArgs st) (defBody st) (defScope st) .none kV doc pm an cdv ct) ⟨us, []⟩ = pure (ps.zip us)) :
    Cal Pr w K mg base x (k + 1) ps P (runB N.length g) := by
  have hB := F.bindsN bd
  have hkp := F.kp
  obtain ⟨oc, od, dV, kV, doc, pm, an, cdv, ct, osl, rfl, lk, hcd, _, _⟩ := F.ex
  refine ⟨⟨_, ?_, hB, _, _, _, lk⟩, hm, hkp⟩
  obtain ⟨c, ec⟩ := He.codeIn_ref hcd
  have e2 : cdv = .ref (He.codeOf K (x, none)) := by
    have := He.codeOf_eq (p := (x, none)) lk ec
    rw [this, ec]
  refine fn_of lk hcd sc (fun vs H Q E h => h.1) fun A outer s H vs Q E hr h => ?_
  obtain ⟨t, p1, q1⟩ := (hb cdv e2 A outer s H E hr (takes_of rfl rfl rfl rfl)).ex
  obtain ⟨hl, M, ds, ω, rfl, pp, zn, gm, gG, nt, r, h⟩ := h
  refine ⟨t, p1, q1 M (fun _ => none) _ _ _ ω _ (DSt.start pp zn gm gG nt r hl hN) ?_⟩
  unfold runB at h
  cases e : g (ds.map .val ++ List.replicate (N.length - ds.length) .emp) ω with
  | ok fl ω' =>
    rw [e] at h
    cases fl with
    | nx δ => exact fun al' σ' H' S f _ => h .non H' S.fr S.g .non
    | rt d => exact fun v H' f g r => h v H' f g r
    | bk δ => exact h.elim
    | ct δ => exact h.elim
  | err z ω' => rw [e] at h; exact h
  | bad => rw [e] at h; exact h.elim
/-- .. that is called by keywords -/
theorem calk_of {st : Stmt} {qual : Str} {fd : FuncData} (c : Cal Pr w K mg base x k ps P fn) (F : FunD K x qual (defArgs st) (defBody st) (defScope st) [] [] (He.ga K x) fd)
    (bd : ∀ (kV doc pm : Value) (an : Option Addr) (cdv ct : Value) (us ws : List Value), us.length = 0 → ws.length = ps.length → bindArgs (PySem.W.fnOf x qual (defArgs st) (defBody st) (defScope st) .none kV doc pm an cdv ct) ⟨us, ps.zip ws⟩ = pure (ps.zip ws)) : CalK Pr w K mg base x k ps P fn := by
  refine ⟨c, ?_⟩
  obtain ⟨fd', F', B, oc', od', osl', lk'⟩ := c.ex
  obtain ⟨oc, od, dV, kV, doc, pm, an, cdv, ct, osl, rfl, lk, hcd, hD, _⟩ := F.ex
  rw [lk] at lk'
  cases lk'
  rcases hD with ⟨_, rfl⟩ | ⟨e, _⟩
  · exact ⟨_, F', fun s us ws _ l1 l2 => .of_eq (bd kV doc pm an cdv ct us ws l1 l2), fun _ r => r⟩
  · exact absurd rfl e
end
section
variable {X : Cx} {W : Wt} {a b e c : Expr} {es : List Expr} {fs : EvA} {pos : Pos}
variable {x : Str} {k : Nat} {ps : List Str} {fn : List D → Om → Rs D}
theorem pd_cal {p : Pos} (C : Cal X.prog X.w X.K X.mg X.base x k ps W.P fn) (hr : Room k X.A) (tk : Takes X (fun cls d _ H => W.w cls d H)) (hl : LenA ps.length fs) (ha : PAd X W (e :: es) fs) (hg : Gl X x := by rfl) (hdb : (x == ("__debug__" : Str)) = false := by decide) (he : starEach (e :: es) X.env = (false, eval e X.env) :: starEach es X.env := by rfl) (hpl : (backTo pos (starEach es X.env)).any (·.1) = false := by rfl) :
    PEd X W (.Call (.Name x p) (e :: es) [] pos) (eCall fn fs) := by
  obtain ⟨fd, F, B, _⟩ := C.ex
  exact pd_call F hr C.hm C.hk B tk (fun _ _ _ h => h) hl ha hg hdb he hpl
theorem pd_cal0 {p : Pos} (C : Cal X.prog X.w X.K X.mg X.base x k [] W.P fn) (hr : Room k X.A) (tk : Takes X (fun cls d _ H => W.w cls d H)) (hg : Gl X x := by rfl) (hdb : (x == ("__debug__" : Str)) = false := by decide) :
    PEd X W (.Call (.Name x p) [] [] pos) (eCall fn aNil) := by
  obtain ⟨fd, F, B, _⟩ := C.ex
  exact pd_call0 F hr C.hm C.hk B tk (fun _ _ _ h => h) hg hdb
/-- keywords' values -/
structure PKd (X : Cx) (W : Wt) (kws : List Keyword) (f : EvA) : Prop where
  ex : ∃ t, PK X kws t ∧ ∀ M al σ H δ ω Q, DSt X.K W.P M al σ H δ ω → PostR X.K M al σ H δ (relA X.K M al) (f δ ω) Q W → t σ H Q
variable {fa : EvE} {kws : List Keyword}
theorem kd_nil : PKd X W [] aNil := ⟨_, pk_nil, fun M al σ H δ ω Q S h => h [] H S (Fr.refl H) .nil⟩
theorem kd_cons {nm : Option Str} {kpos : Pos} (ha : PEd X W e fa) (hr : PKd X W kws fs) : PKd X W (⟨nm, e, kpos⟩ :: kws) (aCons fa fs) := by
  obtain ⟨ta, p1, q1⟩ := ha.ex
  obtain ⟨tb, p2, q2⟩ := hr.ex
  refine ⟨_, pk_cons p1 p2, fun M al σ H δ ω Q S h => ?_⟩
  refine q1 M al σ H δ ω _ S (post_mono (fun x H1 h1 => ?_) (post_bind (rel := relE X.K M al) h))
  obtain ⟨d1, ω1, _, S1, f1, r1, h1⟩ := h1
  refine q2 M al σ H1 δ ω1 _ S1 (post_mono (fun y H2 h2 => ?_) (post_bind (rel := relA X.K M al) (post_from f1 h1)))
  obtain ⟨d2, ω2, _, S2, f2, r2, h2⟩ := h2
  exact h2 (x :: y) H2 S2 f2 (.cons (r1.mono f2 S1.zna) r2)
/-- f(k = v, ..), all of its parameters in their order -/
theorem pd_calk {p : Pos} (C : CalK X.prog X.w X.K X.mg X.base x k ps W.P fn) (hr : Room k X.A) (tk : Takes X (fun cls d _ H => W.w cls d H)) (hl : LenA ps.length fs) (hkw : PKd X W kws fs) (hg : Gl X x := by rfl)
    (hall : (backToKw pos (keywordEach kws X.env)).all (·.1.isSome) = true := by rfl) (hks : (backToKw pos (keywordEach kws X.env)).filterMap (·.1) = ps := by rfl) (hdb : (x == ("__debug__" : Str)) = false := by decide)
    (hpl : ((backTo pos (starEach [] X.env)).any (·.1) || (backToKw pos (keywordEach kws X.env)).any (·.1.isNone)) = false := by rfl) :
    PEd X W (.Call (.Name x p) [] kws pos) (eCall fn fs) := by
  obtain ⟨fd, F, B⟩ := C.kw
  obtain ⟨t, p1, q1⟩ := hkw.ex
  refine ⟨fun σ H Q => t σ H fun zs H2 => zs.length = ps.length ∧ spD X.K W.P ps.length fn zs H2 Q W.w, ⟨fun pins s σ H Q I h => ?_⟩, fun M al σ H δ ω Q S h => ?_⟩
  · refine wpAny_Call_Name_kw (ld_glob I hg C.hm ?_ hdb)
    refine PySem.W.callWith_KW0 (h₀ := X.base) I.ok.mod.kin C.hk hall ?_ hpl
    refine thn (p1.run pos pins s σ H _ I h) fun ws s2 ⟨zs, H2, I2, rz, l2, q2⟩ => ⟨I2.kIn, ?_⟩
    rw [hks]
    exact run_fnN (us := []) (vs := []) F hr B (passes_call tk fun _ _ _ _ h => h) I2 .nil rz rfl l2 q2
  · refine q1 M al σ H δ ω _ S (post_mono (fun x H1 h1 => ?_) (post_bind (rel := relA X.K M al) h))
    obtain ⟨d1, ω1, e1, S1, f1, r1, h1⟩ := h1
    have hn := r1.len.trans (hl _ _ _ _ e1)
    exact ⟨hn, sp_ok (fun _ _ _ h => h) S1 r1 hn (post_from f1 h1)⟩
end
end DL

namespace DL
open PySem PySem.Spec PyProof.Rows L2 LamX
section
variable {X : Cx} {W : Wt} {P : PP} {K : PySem.W.Frag} {M : Fm} {al : Nat → Option Addr} {σ : L2.St} {H : Hp} {δ : Sls} {ω : Om}
variable {a b e c : Expr} {es : List Expr} {fa fb fc : EvE} {ft fu : EvT} {fs : EvA} {pos : Pos}
/-- a, b = x, y -/
def sPar2 (i j : Nat) (fs : EvA) : EvS := fun δ ω => (fs δ ω).bind fun ds ω1 => match ds with
  | [d1, d2] => .ok (.nx ((δ.set i (.val d1)).set j (.val d2))) ω1
  | _ => .bad
theorem sd_par {i j : Nat} {x y : Str} {px py pt : Pos} {kt k2 : Nat} {pt2 : Pos} (hc : X.calm = true) (hN : X.N.Nodup) (hi : X.N[i]? = some x) (hj : X.N[j]? = some y) (hij : i ≠ j)
    (hx : X.env.scope.names.lookup x = some .local) (hy : X.env.scope.names.lookup y = some .local) (ha : PAd X W [a, b] fs)
    (hw : swappedStores [.Tuple [.Name x px, .Name y py] kt pt] (.Tuple [a, b] k2 pt2) X.env = pure (some [x, y]) := by rfl)
    (hs : swapsWithSole [.Tuple [.Name x px, .Name y py] kt pt] (.Tuple [a, b] k2 pt2) pos.line X.env = pure false := by rfl) :
    PSd X W (.Assign [.Tuple [.Name x px, .Name y py] kt pt] (.Tuple [a, b] k2 pt2) pos) (sPar2 i j fs) := by
  obtain ⟨t, p1, q1⟩ := ha.ex
  refine ⟨_, ps_par hc hN hi hj hij hx hy p1 hw hs, fun M al σ H δ ω DD S h => ?_⟩
  refine q1 M al σ H δ ω _ S (post_mono (fun xs H1 h1 => ?_) (posts_bind (rel := relA X.K M al) S.fr h))
  obtain ⟨ds, ω1, e1, S1, f1, r1, h1⟩ := h1
  split at h1
  · rename_i d1 d2
    obtain ⟨v, w, rfl, r2, r3⟩ := r1.two
    refine ⟨v, w, rfl, ?_⟩
    have S2 := S1.set (i := i) r2
    have hle : ∀ b, NA M.N (fun j => if j = i then none else al j) b → Tr H1 b → NA M.N al b := fun b hb _ => by
      rcases hb with hb | ⟨k, hb⟩
      · exact .inl hb
      · by_cases e : k = i
        · simp only [e, if_pos] at hb; cases hb
        · simp only [if_neg e] at hb; exact .inr ⟨k, hb⟩
    have S3 := S2.set (i := j) (r3.less hle)
    exact h1 _ _ H1 S3 f1.s (AlExt.drop.trans (Z := M.Z) (Fr.refl _) AlExt.drop)
  · exact h1.elim
/-- (x, y) as a target -/
def gdTup2 (i j : Nat) : EvG := fun d δ _ => match d with
  | .tup [d1, d2] => some ((δ.set i (.val d1)).set j (.val d2))
  | _ => none
theorem gd_tup2 {i j : Nat} {x y : Str} {px py : Pos} {kt : Nat} (hc : X.calm = true) (hN : X.N.Nodup) (hi : X.N[i]? = some x) (hj : X.N[j]? = some y) (hx : Loc X.env.scope x) (hy : Loc X.env.scope y) (hf : X.fn x = true ∨ X.env.scope.names.lookup x = some .local := by first | exact .inl rfl | exact .inr rfl | assumption) (hf2 : X.fn y = true ∨ X.env.scope.names.lookup y = some .local := by first | exact .inl rfl | exact .inr rfl | assumption)
    (hs : (assignEach (.Name x px :: [.Name y py]) X.env).map (·.2) = assign (.Name x px) X.env :: (assignEach [.Name y py] X.env).map (·.2) := by rfl) (hs2 : (assignEach (.Name y py :: []) X.env).map (·.2) = assign (.Name y py) X.env :: (assignEach [] X.env).map (·.2) := by rfl)
    (hn : (assignEach [.Name x px, .Name y py] X.env).length = 2 := by rfl) (hst : (assignEach [.Name x px, .Name y py] X.env).findIdx? (·.1) = none := by rfl) : PGd X P (.Tuple [.Name x px, .Name y py] kt pos) [i, j] (gdTup2 i j) := by
  refine ⟨_, pg_tup hc (pgs_cons (pg_name hN hi hx hf) (pgs_cons (pg_name hN hj hy hf2) pgs_nil hs2) hs) hn hst, fun M al σ H δ ω v d δ' Q S r hg k => ?_⟩
  unfold gdTup2 at hg
  split at hg
  · rename_i d1 d2
    cases hg
    cases r with
    | tup h l r =>
      obtain ⟨v1, v2, rfl, r2, r3⟩ := r.two
      refine ⟨_, [v1, v2], rfl, h, rfl, v1, [v2], rfl, v2, [], rfl, rfl, ?_⟩
      have S2 := S.set (i := i) r2
      have hle : ∀ b, NA M.N (fun j => if j = i then none else al j) b → Tr H b → NA M.N al b := fun b hb _ => by
        rcases hb with hb | ⟨k, hb⟩
        · exact .inl hb
        · by_cases e : k = i
          · simp only [e, if_pos] at hb; cases hb
          · simp only [if_neg e] at hb; exact .inr ⟨k, hb⟩
      have S3 := S2.set (i := j) (r3.less hle)
      have ea : (fun k => if k = j then none else if k = i then none else al k) = alW al [i, j] := by
        funext k
        by_cases e1 : k = j
        · simp [alW, e1]
        · by_cases e2 : k = i
          · simp [alW, e2]
          · simp [alW, e1, e2]
      rw [ea] at S3
      refine k _ S3 (by rw [List.length_set, List.length_set]) fun m hm => ?_
      have h1 : m ≠ i ∧ m ≠ j := by simpa using hm
      rw [List.getElem?_set_ne (Ne.symm h1.2), List.getElem?_set_ne (Ne.symm h1.1)]
  · cases hg
end
end DL

namespace DL
open PySem PySem.Spec PyProof.Rows L2 LamX
section
variable {X : Cx} {W : Wt} {P : PP} {K : PySem.W.Frag} {M : Fm} {al : Nat → Option Addr} {σ : L2.St} {H : Hp} {δ : Sls} {ω : Om}
variable {a b e c : Expr} {es : List Expr} {fa fb fc : EvE} {ft fu : EvT} {fs : EvA} {pos : Pos}
/-! ### whatever is walked -/
def iAnyT (K : PySem.W.Frag) (te : TE) : TI := fun σ H R => te σ H fun x H1 => (∃ a xs, x = .ref a ∧ SqL K H1 a xs ∧ R (Itl K a) H1) ∨ (∃ a xs, x = .ref a ∧ SqT K H1 a xs ∧ R (Itt K a) H1) ∨ ∃ z, x = .str z ∧ R (Its z) H1
theorem pi_any {tg : Expr} {te : TE} (hl : PE X e te) : PI X tg e (iAnyT X.K te) := by
  refine ⟨fun pins s σ H R I h => ?_⟩
  refine thn (hl.run pins s σ H _ I h) fun v s1 ⟨y, H1, I1, r1, q1⟩ => ?_
  rcases q1 with ⟨a, xs, ey, hq, q⟩ | ⟨a, xs, ey, hq, q⟩ | ⟨x, ey, q⟩
  · subst ey
    cases r1
    obtain ⟨its, rv, p, hz⟩ := I1.list hq
    refine wpAny_pyIter_list p.isList ?_
    refine ⟨s1.heap.objs.size, [s1.heap.objs.size], _, _, H1, rfl, I1.kept (t' := s1.toks) fun b o e => Heap.get?_push_of_some _ e, turn_list a _, ⟨_, Heap.get?_push_size _ rfl, rfl, rfl⟩, fun b hb => ?_, q⟩
    obtain rfl : b = s1.heap.objs.size := by simpa using hb
    exact I1.fpOk (Nat.le_refl _) (I1.hok.fresh (Nat.le_refl _))
  · subst ey
    cases r1
    obtain ⟨its, rv, p, hz⟩ := I1.tuple hq
    refine wpAny_pyIter_tuple (show s1.heap.IsTuple a its.toArray from p) ?_
    refine ⟨s1.heap.objs.size, [s1.heap.objs.size], _, _, H1, rfl, I1.kept (t' := s1.toks) fun b o e => Heap.get?_push_of_some _ e, turn_tuple a _, ⟨_, Heap.get?_push_size _ rfl, rfl, rfl⟩, fun b hb => ?_, q⟩
    obtain rfl : b = s1.heap.objs.size := by simpa using hb
    exact I1.fpOk (Nat.le_refl _) (I1.hok.fresh (Nat.le_refl _))
  · subst ey
    obtain ⟨t, rfl⟩ := r1
    cases ha : x.cps.all (· < 128)
    · exact wpAny_pyIter_wide ha (pi_one (tk := s1.toks) I1 _ (turn_str _ x t "str_iterator" (.inr rfl)) ⟨_, Heap.get?_push_size _ rfl, rfl, rfl⟩ q)
    · exact wpAny_pyIter_ascii ha (pi_one (tk := s1.toks) I1 _ (turn_str _ x t "str_ascii_iterator" (.inl rfl)) ⟨_, Heap.get?_push_size _ rfl, rfl, rfl⟩ q)
def itemsD : D → Option (List D)
  | .tup ds => some ds
  | .lst ds => some ds
  | .scr ns => some (ns.map .int)
  | .str x => if x.length ≤ sizeLine then some (signs x) else none
  | _ => none
def iAny (fa : EvE) : EvI := fun δ ω => (fa δ ω).bind fun d ω1 => match itemsD d with
  | some ds => .ok ds ω1
  | none => .bad
theorem id_any {tg : Expr} (h : PEd X W e fa) : PId X W tg e (iAny fa) := by
  obtain ⟨t, p1, q1⟩ := h.ex
  refine ⟨_, pi_any p1, fun M al σ H δ ω R S h => ?_⟩
  refine q1 M al σ H δ ω _ S (post_mono (fun x H1 h1 => ?_) (post_bind (rel := relE X.K M al) h))
  obtain ⟨d1, ω1, e1, S1, f1, r1, h1⟩ := h1
  cases r1 with
  | tup h l r => exact .inr (.inl ⟨_, _, rfl, h, h1 _ _ S1 f1 (itD_tup h l r)⟩)
  | lst h n l r => exact .inl ⟨_, _, rfl, SqL.of h, h1 _ _ S1 f1 (itD_lst (fun Z H' hz f => SqL.of (f.keep _ _ h fun z => n (hz _ z))) l r)⟩
  | scr h l => exact .inl ⟨_, _, rfl, h.sq, h1 _ _ S1 f1 (itD_lst (fun Z H' hz f => (f.sqF h).sq) (by rw [List.length_map]; exact l) (ints_reps _))⟩
  | scrL h n l => exact .inl ⟨_, _, rfl, SqL.of h, h1 _ _ S1 f1 (itD_lst (fun Z H' hz f => SqL.of (f.keep _ _ h fun z => n (hz _ z))) (by rw [List.length_map]; exact l) (ints_reps _))⟩
  | str x =>
    have ei : itemsD (.str x) = if x.length ≤ sizeLine then some (signs x) else none := rfl
    rw [ei] at h1
    by_cases hl : x.length ≤ sizeLine
    · rw [if_pos hl] at h1
      exact .inr (.inr ⟨_, rfl, h1 _ _ S1 f1 (itD_str hl)⟩)
    · rw [if_neg hl] at h1
      exact h1.elim
  | _ => exact h1.elim
/-! ### classes as values -/
theorem pd_ty {x : Str} {n : String} {p : Pos} (hm : X.mg x = none) (hv : bootBuiltins x = some (.type n)) (hg : Gl X x := by rfl) (hn : x ≠ "__name__" := by decide) (hd : (x == ("__debug__" : Str)) = false := by decide) : PEd X W (.Name x p) (eC (.ty n)) :=
  pd_const (pe_bltn (v := .ty n) hg hm hv rfl hn hd) fun _ _ _ => .ty n
theorem pd_own {x : Str} {p : Pos} (hm : X.mg x = some (.ref (He.ga X.K x))) (hg : Gl X x := by rfl) (hd : (x == ("__debug__" : Str)) = false := by decide) : PEd X W (.Name x p) (eC (.glo x)) :=
  pd_glob (v := .ref (He.ga X.K x)) ⟨_, hm, rfl⟩ (fun _ _ _ => .glo x) hg hd
theorem pd_gint {x : Str} {i : Int} {p : Pos} (hm : ∃ t, X.mg x = some (.int i t)) (hg : Gl X x := by rfl) (hd : (x == ("__debug__" : Str)) = false := by decide) : PEd X W (.Name x p) (eC (.int i)) := by
  obtain ⟨t, h⟩ := hm
  exact pd_glob (v := .int i) ⟨_, h, ⟨t, rfl⟩⟩ (fun _ _ _ => .int i) hg hd
theorem pd_gstr {x z : Str} {p : Pos} (hm : ∃ t, X.mg x = some (.str z t)) (hg : Gl X x := by rfl) (hd : (x == ("__debug__" : Str)) = false := by decide) : PEd X W (.Name x p) (eC (.str z)) := by
  obtain ⟨t, h⟩ := hm
  exact pd_glob (v := .str z) ⟨_, h, ⟨t, rfl⟩⟩ (fun _ _ _ => .str z) hg hd
/-! ### operators, whatever they are between -/
abbrev gEq : D → D → Option D := fun a b => (gEqS a b).or (gEqD false a b)
abbrev gNe : D → D → Option D := fun a b => (gNeS a b).or (gEqD true a b)
theorem c_eq (hu : X.A.units + 64 < cLine) : OpR X (compareOp .Eq) (fun x y H Q => rEq x y H Q ∨ rEqD X.K x y H Q) := op_eq.or (op_eqD hu)
theorem c_ne (hu : X.A.units + 64 < cLine) : OpR X (compareOp .NotEq) (fun x y H Q => rNe x y H Q ∨ rNeD X.K x y H Q) := op_ne.or (op_neD hu)
theorem o_eq : Op2 K (fun x y H Q => rEq x y H Q ∨ rEqD K x y H Q) gEq := op2_eqS.or op2_eqD
theorem o_ne : Op2 K (fun x y H Q => rNe x y H Q ∨ rNeD K x y H Q) gNe := op2_neS.or op2_neD
abbrev gMulA : D → D → Option D := fun a b => (gMul a b).or (gMulS a b)
abbrev rMulA : R2 := fun x y H Q => rI CMul (fun i j => .int (i * j)) x y H Q ∨ (fun x y H Q => ∃ (z : Str) (n : Int), x = .str z ∧ y = .int n ∧ 0 ≤ n ∧ n < 2 ^ 24 ∧ z.length * n.toNat ≤ sizeLine ∧ Q (.str (mulS z n.toNat)) H) x y H Q
theorem c_mul : OpR X (binaryOp .Mult) rMulA := op_mul.or op_mulS
theorem o_mulA : Op2 K rMulA gMulA := o_mul.or o_mulS
abbrev gLeA : D → D → Option D := fun a b => (gLeI a b).or (gLeS a b)
abbrev rLeA : R2 := fun x y H Q => rI0 (fun i j => .bl (decide (i ≤ j))) x y H Q ∨ (fun x y H Q => ∃ i j, x = .str i ∧ y = .str j ∧ Q (.bl (!decide (j.cps.toList < i.cps.toList))) H) x y H Q
theorem c_le : OpR X (compareOp .LtE) rLeA := op_le.or op_le_str
theorem o_leA : Op2 K rLeA gLeA := o_le.or o_leS
end
/-! ### what the source of draws does -/
section
abbrev setT : Om → Int → Om := fun ω k => { ω with turn := k }
abbrev setL : Om → Int → Om := fun ω k => { ω with left := k }
def gBlended : EvS := sSeq (sPar2 1 2 (aCons (eOp2 gAdd (eStI Om.turn 0) (eC (.int 1))) (aCons (eC (.int 0)) aNil))) (sSeq (sStI setT 0 (eVar 1)) (sSeq (sFor (iAny (eOpN gLst (aCons (eC (.int 2147481529)) (aCons (eC (.int 2147481509)) (aCons (eC (.int 2147481499)) aNil))))) (gdName 3)
  (sSeq (sSet 4 (eOp2 gAdd (eOp2 gMulA (eC (.int 46819)) (eVar 1)) (eOp2 gDiv (eVar 3) (eC (.int 89)))))
  (sSeq (sForC 0 (gdName 5) (sSet 4 (eOp2 gMod (eOpN gInt (aCons (eOp2 gAdd (eOp2 gAdd (eOp2 gMulA (eVar 4) (eC (.int 66889))) (eVar 5)) (eVar 1)) aNil)) (eVar 3))))
    (sSet 2 (eOp2 gAdd (eOp2 gMulA (eVar 2) (eC (.int 2147483647))) (eOp2 gMod (eOpN gInt (aCons (eOp2 gPow (eVar 4) (eC (.int 5))) aNil)) (eVar 3)))))))
  (sRet (eVar 2))))
def gDraw (fb : List D → Om → Rs D) : EvS := sSeq (sIf (tB (eOp2 gEq (eStI Om.left 0) (eC (.int 0)))) (sStI setL 0 (eIf (tGreat 0) (ePop 0) (eCall fb (aCons (eVar 0) aNil)))) sNext)
  (sSeq (sSet 2 (eOp2 gMod (eOpN gInt (aCons (eStI Om.left 0) aNil)) (eVar 1))) (sSeq (sStI setL 0 (eOp2 gDiv (eStI Om.left 0) (eVar 1))) (sRet (eVar 2))))
def gPick (fd : List D → Om → Rs D) : EvS := sRet (eOp2 gIx (eVar 1) (eCall fd (aCons (eVar 0) (aCons (eOpN gLen (aCons (eVar 1) aNil)) aNil))))
end
end DL

namespace DL
open PySem PySem.Spec PyProof.Rows L2 LamX
/-! ### the source of draws, reckoned -/
def bodyC : EvS := sSet 4 (eOp2 gMod (eOpN gInt (aCons (eOp2 gAdd (eOp2 gAdd (eOp2 gMulA (eVar 4) (eC (.int 66889))) (eVar 5)) (eVar 1)) aNil)) (eVar 3))
theorem gMul_r {i j : Int} (h1 : -(2 ^ 64) < j) (h2 : j < 2 ^ 64) : gMulA (.int i) (.int j) = some (.int (i * j)) := by
  show (if CMul i j then some (D.int (i * j)) else none).or _ = _
  rw [if_pos (show CMul i j from Or.inr ⟨h1, h2⟩)]
  rfl
theorem gMul_l {i j : Int} (h1 : -(2 ^ 64) < i) (h2 : i < 2 ^ 64) : gMulA (.int i) (.int j) = some (.int (i * j)) := by
  show (if CMul i j then some (D.int (i * j)) else none).or _ = _
  rw [if_pos (show CMul i j from Or.inl ⟨h1, h2⟩)]
  rfl
theorem gMod_p {i j : Int} (h : 0 < j) : gMod (.int i) (.int j) = some (.int (i % j)) := if_pos h
theorem gDiv_p {i j : Int} (h : 0 < j) (h2 : j < 1073741824) : gDiv (.int i) (.int j) = some (.int (i / j)) := if_pos ⟨h, h2⟩
theorem gPow_p {i j : Int} (h0 : 0 ≤ j) (h1 : j ≤ 1000000) (h2 : i.natAbs < 2 ^ 64) : gPow (.int i) (.int j) = some (.int (i ^ j.toNat)) := if_pos ⟨h0, h1, h2⟩
theorem gAdd_i {i j : Int} : gAdd (.int i) (.int j) = some (.int (i + j)) := rfl
theorem rs1_some (d : D) (ω : Om) : rs1 (some d) ω = .ok d ω := rfl
theorem bodyC_run {s : Sl} {t f p b c : Int} {ω : Om} (hp : 0 < p) : bodyC [s, .val (.int t), .val (.int f), .val (.int p), .val (.int b), .val (.int c)] ω = .ok (.nx [s, .val (.int t), .val (.int f), .val (.int p), .val (.int ((b * 66889 + c + t) % p)), .val (.int c)]) ω := by
  show Rs.bind (Rs.bind (Rs.bind (Rs.bind (Rs.bind (Rs.bind (rs1 (gMulA (.int b) (.int 66889)) ω) _) _) _) _) _) _ = _
  rw [gMul_r (by decide) (by decide)]
  show Rs.bind (rs1 (gMod (.int (b * 66889 + c + t)) (.int p)) ω) _ = _
  rw [gMod_p hp]
  rfl
theorem loopC_run {t f p : Int} {ω : Om} {s : Sl} (hp : 0 < p) : ∀ (ds : List Int) (b : Int) (s5 : Sl), ∃ s5', loopC ω.cells (gdName 5) bodyC ds [s, .val (.int t), .val (.int f), .val (.int p), .val (.int b), s5] ω =
    .ok (.nx [s, .val (.int t), .val (.int f), .val (.int p), .val (.int (ds.foldl (fun b c => (b * 66889 + c + t) % p) b)), s5']) ω
  | [], b, s5 => ⟨s5, rfl⟩
  | d :: ds, b, s5 => by
    obtain ⟨s5', h⟩ := loopC_run hp ds ((b * 66889 + d + t) % p) (.val (.int d))
    refine ⟨s5', ?_⟩
    show Rs.bind (bodyC [s, .val (.int t), .val (.int f), .val (.int p), .val (.int b), .val (.int d)] ω) _ = _
    rw [bodyC_run hp]
    show (if ω.cells = ω.cells then _ else _) = _
    rw [if_pos rfl, h]
    rfl
theorem blendP_small {t p : Int} {cs : List Int} (ht : 0 ≤ t) (ht2 : t ≤ 2 ^ 40) (hp : 0 < p) (hp2 : p < 2 ^ 31) : (cs.foldl (fun b c => (b * 66889 + c + t) % p) (46819 * t + p / 89)).natAbs < 2 ^ 64 := by
  have key : ∀ (cs : List Int) (b : Int), 0 ≤ b → b < 2 ^ 60 → 0 ≤ cs.foldl (fun b c => (b * 66889 + c + t) % p) b ∧ cs.foldl (fun b c => (b * 66889 + c + t) % p) b < 2 ^ 60 := by
    intro cs
    induction cs with
    | nil => exact fun b h1 h2 => ⟨h1, h2⟩
    | cons c r ih =>
      intro b h1 h2
      refine ih _ (Int.emod_nonneg _ (by omega)) ?_
      have := Int.emod_lt_of_pos (b * 66889 + c + t) hp
      show (b * 66889 + c + t) % p < 2 ^ 60
      omega
  have h3 : 0 ≤ p / 89 := Int.ediv_nonneg (by omega) (by decide)
  have h4 : p / 89 ≤ p := Int.ediv_le_self _ (by omega)
  obtain ⟨h1, h2⟩ := key cs (46819 * t + p / 89) (by omega) (by omega)
  omega
def bodyP : EvS := sSeq (sSet 4 (eOp2 gAdd (eOp2 gMulA (eC (.int 46819)) (eVar 1)) (eOp2 gDiv (eVar 3) (eC (.int 89)))))
  (sSeq (sForC 0 (gdName 5) bodyC) (sSet 2 (eOp2 gAdd (eOp2 gMulA (eVar 2) (eC (.int 2147483647))) (eOp2 gMod (eOpN gInt (aCons (eOp2 gPow (eVar 4) (eC (.int 5))) aNil)) (eVar 3)))))
theorem bodyP_run {t f p : Int} {s4 s5 : Sl} {ω : Om} (ht : 0 ≤ t) (ht2 : t ≤ 2 ^ 40) (hp : 0 < p) (hp2 : p < 2 ^ 31) : ∃ s4' s5', bodyP [.val .st, .val (.int t), .val (.int f), .val (.int p), s4, s5] ω = .ok (.nx [.val .st, .val (.int t), .val (.int (f * 2147483647 + (blendP t ω.cells p) ^ 5 % p)), .val (.int p), s4', s5']) ω := by
  obtain ⟨s5', h⟩ := loopC_run (ω := ω) (t := t) (f := f) (s := .val .st) hp ω.cells (46819 * t + p / 89) s5
  refine ⟨.val (.int (blendP t ω.cells p)), s5', ?_⟩
  have e1 : gMulA (.int 46819) (.int t) = some (.int (46819 * t)) := gMul_l (by decide) (by decide)
  have e2 : gDiv (.int p) (.int 89) = some (.int (p / 89)) := gDiv_p (by decide) (by decide)
  have e3 : gMulA (.int f) (.int 2147483647) = some (.int (f * 2147483647)) := gMul_r (by decide) (by decide)
  have e4 : gPow (.int (blendP t ω.cells p)) (.int 5) = some (.int (blendP t ω.cells p ^ 5)) := gPow_p (by decide) (by decide) (blendP_small ht ht2 hp hp2)
  have e5 : gMod (.int (blendP t ω.cells p ^ 5)) (.int p) = some (.int (blendP t ω.cells p ^ 5 % p)) := gMod_p hp
  have e6 : gInt [.int (blendP t ω.cells p ^ 5)] = some (.int (blendP t ω.cells p ^ 5)) := rfl
  have h' : loopC ω.cells (gdName 5) bodyC ω.cells [.val .st, .val (.int t), .val (.int f), .val (.int p), .val (.int (46819 * t + p / 89)), s5] ω = .ok (.nx [.val .st, .val (.int t), .val (.int f), .val (.int p), .val (.int (blendP t ω.cells p)), s5']) ω := h
  simp only [bodyP, sSeq, sSet, sForC, eOp2, eOpN, eVar, eC, aCons, aNil, Rs.bind_ok, rs1_some, List.getElem?_cons_zero, List.getElem?_cons_succ, List.set_cons_zero, List.set_cons_succ, e1, e2, e3, e4, e5, e6, gAdd_i, h']
theorem blended_run {ω : Om} (ht : 0 ≤ ω.turn) (ht2 : ω.turn < 2 ^ 40) : runB 6 gBlended [.st] ω = .ok (.int (blendV ω)) { ω with turn := ω.turn + 1 } := by
  let ω' : Om := { ω with turn := ω.turn + 1 }
  have hx : ∀ f p s4 s5, 0 < p → p < 2 ^ 31 → ∃ s4' s5', bodyP [.val .st, .val (.int (ω.turn + 1)), .val (.int f), .val (.int p), s4, s5] ω' = .ok (.nx [.val .st, .val (.int (ω.turn + 1)), .val (.int (f * 2147483647 + (blendP (ω.turn + 1) ω.cells p) ^ 5 % p)), .val (.int p), s4', s5']) ω' := fun f p s4 s5 h1 h2 => bodyP_run (by omega) (by omega) h1 h2
  obtain ⟨a1, a2, h1⟩ := hx 0 2147481529 .emp .emp (by decide) (by decide)
  obtain ⟨b1, b2, h2⟩ := hx (0 * 2147483647 + (blendP (ω.turn + 1) ω.cells 2147481529) ^ 5 % 2147481529) 2147481509 a1 a2 (by decide) (by decide)
  obtain ⟨c1, c2, h3⟩ := hx ((0 * 2147483647 + (blendP (ω.turn + 1) ω.cells 2147481529) ^ 5 % 2147481529) * 2147483647 + (blendP (ω.turn + 1) ω.cells 2147481509) ^ 5 % 2147481509) 2147481499 b1 b2 (by decide) (by decide)
  have h0 : (fun δ ω => (sFor (iAny (eOpN gLst (aCons (eC (.int 2147481529)) (aCons (eC (.int 2147481509)) (aCons (eC (.int 2147481499)) aNil))))) (gdName 3) bodyP) δ ω) [.val .st, .val (.int (ω.turn + 1)), .val (.int 0), .emp, .emp, .emp] ω' = .ok (.nx [.val .st, .val (.int (ω.turn + 1)), .val (.int (blendV ω)), .val (.int 2147481499), c1, c2]) ω' := by
    have e : gLst [.int 2147481529, .int 2147481509, .int 2147481499] = some (.lst [.int 2147481529, .int 2147481509, .int 2147481499]) := if_pos (by show (3 : Nat) ≤ sizeLine; decide)
    show (sFor _ _ _) _ _ = _
    simp only [sFor, iAny, eOpN, aCons, aNil, eC, Rs.bind_ok, e, rs1_some, itemsD]
    show loopF (gdName 3) bodyP [.int 2147481529, .int 2147481509, .int 2147481499] [.val .st, .val (.int (ω.turn + 1)), .val (.int 0), .emp, .emp, .emp] ω' = _
    show Rs.bind (bodyP [.val .st, .val (.int (ω.turn + 1)), .val (.int 0), .val (.int 2147481529), .emp, .emp] ω') _ = _
    rw [h1]
    show Rs.bind (bodyP [.val .st, .val (.int (ω.turn + 1)), .val (.int _), .val (.int 2147481509), a1, a2] ω') _ = _
    rw [h2]
    show Rs.bind (bodyP [.val .st, .val (.int (ω.turn + 1)), .val (.int _), .val (.int 2147481499), b1, b2] ω') _ = _
    rw [h3]
    rfl
  show Rs.bind (Rs.bind ((fun δ ω => (sFor (iAny (eOpN gLst (aCons (eC (.int 2147481529)) (aCons (eC (.int 2147481509)) (aCons (eC (.int 2147481499)) aNil))))) (gdName 3) bodyP) δ ω) [.val .st, .val (.int (ω.turn + 1)), .val (.int 0), .emp, .emp, .emp] ω') _) _ = _
  rw [h0]
  rfl
end DL

namespace DL
open PySem PySem.Spec PyProof.Rows L2 LamX
def turnOk (ω : Om) : Prop := 0 ≤ ω.turn ∧ ω.turn < 2 ^ 40
instance (ω : Om) : Decidable (turnOk ω) := by unfold turnOk; infer_instance
def blendF : List D → Om → Rs D := fun ds ω => match ds with
  | [.st] => if turnOk ω then .ok (.int (blendV ω)) { ω with turn := ω.turn + 1 } else .bad
  | _ => .bad
theorem blendF_ok : ∀ ds ω, blendF ds ω ≠ .bad → runB 6 gBlended ds ω = blendF ds ω := by
  intro ds ω h
  unfold blendF at h ⊢
  split at h
  · split at h
    · rename_i ht
      rw [if_pos ht]
      exact blended_run ht.1 ht.2
    · exact absurd rfl h
  · exact absurd rfl h
def drawF : List D → Om → Rs D := fun ds ω => match ds with
  | [.st, .int n] => if 0 < n ∧ n < 2 ^ 30 ∧ turnOk ω then .ok (.int (drawI n ω)) (drawO n ω) else .bad
  | _ => .bad
theorem gEq_ii (i j : Int) : gEq (.int i) (.int j) = some (.bl (decide (i = j))) := by
  show (if scal (.int i) (.int j) = true then some (D.bl (decide (V.int i = V.int j))) else none).or _ = _
  rw [if_pos (show scal (.int i) (.int j) = true from rfl)]
  show some _ = some _
  congr 2
  by_cases h : i = j
  · rw [h]; simp
  · rw [decide_eq_false h, decide_eq_false]
    intro e
    cases e
    exact h rfl
theorem drawF_ok : ∀ ds ω, drawF ds ω ≠ .bad → runB 3 (gDraw blendF) ds ω = drawF ds ω := by
  intro ds ω h
  unfold drawF at h ⊢
  split at h
  · rename_i n
    split at h
    · rename_i hc
      rw [if_pos hc]
      obtain ⟨h1, h2, ht⟩ := hc
      have e5 : ∀ i, gMod (.int i) (.int n) = some (.int (i % n)) := fun i => gMod_p h1
      have e6 : ∀ i, gInt [.int i] = some (.int i) := fun i => rfl
      have e7 : ∀ i, gDiv (.int i) (.int n) = some (.int (i / n)) := fun i => gDiv_p h1 h2
      have tail : ∀ ω1 : Om, (sSeq (sSet 2 (eOp2 gMod (eOpN gInt (aCons (eStI Om.left 0) aNil)) (eVar 1))) (sSeq (sStI setL 0 (eOp2 gDiv (eStI Om.left 0) (eVar 1))) (sRet (eVar 2)))) [.val .st, .val (.int n), .emp] ω1 = .ok (.rt (.int (ω1.left % n))) { ω1 with left := ω1.left / n } := fun ω1 => by
        simp only [sSeq, sSet, sStI, sRet, eOp2, eOpN, eStI, eVar, eC, aCons, aNil, Rs.bind_ok, rs1_some, List.getElem?_cons_zero, List.getElem?_cons_succ, List.set_cons_zero, List.set_cons_succ, e5, e6, e7]
      have start : (sIf (tB (eOp2 gEq (eStI Om.left 0) (eC (.int 0)))) (sStI setL 0 (eIf (tGreat 0) (ePop 0) (eCall blendF (aCons (eVar 0) aNil)))) sNext) [.val .st, .val (.int n), .emp] ω = .ok (.nx [.val .st, .val (.int n), .emp]) (refill ω) := by
        unfold refill
        by_cases h0 : ω.left = 0
        · rw [if_pos h0]
          cases hg : ω.great with
          | nil =>
            have eb : blendF [.st] ω = .ok (.int (blendV ω)) { ω with turn := ω.turn + 1 } := if_pos ht
            simp only [sIf, tB, sStI, eIf, tGreat, eCall, eOp2, eStI, eC, eVar, aCons, aNil, Rs.bind_ok, rs1_some, List.getElem?_cons_zero, List.getElem?_cons_succ, gEq_ii, h0, decide_true, if_true, hg, List.isEmpty_nil, Bool.not_true, Bool.false_eq_true, if_false, eb]
          | cons g gs =>
            simp only [sIf, tB, sStI, eIf, tGreat, ePop, eCall, eOp2, eStI, eC, eVar, aCons, aNil, Rs.bind_ok, rs1_some, List.getElem?_cons_zero, List.getElem?_cons_succ, gEq_ii, h0, decide_true, if_true, hg, List.isEmpty_cons, Bool.not_false]
        · rw [if_neg h0]
          simp only [sIf, tB, sNext, eOp2, eStI, eC, Rs.bind_ok, rs1_some, List.getElem?_cons_zero, gEq_ii, h0, decide_false, Bool.false_eq_true, if_false]
      show Rs.bind (Rs.bind ((sIf (tB (eOp2 gEq (eStI Om.left 0) (eC (.int 0)))) (sStI setL 0 (eIf (tGreat 0) (ePop 0) (eCall blendF (aCons (eVar 0) aNil)))) sNext) [.val .st, .val (.int n), .emp] ω) _) _ = _
      rw [start]
      show Rs.bind ((sSeq (sSet 2 (eOp2 gMod (eOpN gInt (aCons (eStI Om.left 0) aNil)) (eVar 1))) (sSeq (sStI setL 0 (eOp2 gDiv (eStI Om.left 0) (eVar 1))) (sRet (eVar 2)))) [.val .st, .val (.int n), .emp] (refill ω)) _ = _
      rw [tail]
      rfl
    · exact absurd rfl h
  · exact absurd rfl h
theorem drawI_lt {n : Int} {ω : Om} (h : 0 < n) : 0 ≤ drawI n ω ∧ drawI n ω < n := ⟨Int.emod_nonneg _ (by omega), Int.emod_lt_of_pos _ h⟩
theorem refill_turn (ω : Om) : (refill ω).turn = ω.turn ∨ (refill ω).turn = ω.turn + 1 := by
  unfold refill
  split
  · split
    · exact .inl rfl
    · exact .inr rfl
  · exact .inl rfl
theorem drawO_turn (n : Int) (ω : Om) : (drawO n ω).turn = ω.turn ∨ (drawO n ω).turn = ω.turn + 1 := refill_turn ω
/-- what a choice is made of -/
def choices : D → Option (List D)
  | .tup ds => some ds
  | .lst ds => some ds
  | .str x => some (signs x)
  | _ => none
def pickF : List D → Om → Rs D := fun ds ω => match ds with
  | [.st, d] => match choices d with
    | some xs => if 0 < xs.length ∧ xs.length < 2 ^ 24 ∧ turnOk ω then .ok (xs.getD (drawI xs.length ω).toNat .non) (drawO xs.length ω) else .bad
    | none => .bad
  | _ => .bad
theorem atI_ok {α : Type} {xs : List α} {i : Int} (h0 : 0 ≤ i) (h1 : i < xs.length) : atI xs i = xs[i.toNat]? := by
  unfold atI ixN
  have : i.toNat < xs.length := by omega
  simp [h0, show ¬ i < 0 by omega, this, h1]
theorem gLen_choices {d : D} {xs : List D} (h : choices d = some xs) (hl : xs.length < 2 ^ 24) : gLen [d] = some (.int xs.length) := by
  unfold choices at h
  split at h
  · cases h; rfl
  · cases h; rfl
  · cases h
    rename_i x
    rw [signs_length] at hl ⊢
    show (if x.length ≤ sizeLine then some (D.int x.length) else none) = _
    have hs : sizeLine = 2 ^ 24 := rfl
    have hl' : x.length < 2 ^ 24 := hl
    rw [if_pos (by omega)]
    rfl
  · cases h
theorem gIx_choices {d : D} {xs : List D} {i : Int} (h : choices d = some xs) (hl : xs.length < 2 ^ 24) (h0 : 0 ≤ i) (h1 : i < xs.length) : gIx d (.int i) = some (xs.getD i.toNat .non) := by
  have hi : i.toNat < xs.length := by omega
  have e0 : xs.getD i.toNat .non = xs[i.toNat] := by simp [hi]
  rw [e0]
  unfold choices at h
  split at h
  · cases h
    show (none : Option D).or ((atI xs i).or none) = _
    rw [atI_ok h0 h1, List.getElem?_eq_getElem hi]
    rfl
  · cases h
    show (atI xs i).or _ = _
    rw [atI_ok h0 h1, List.getElem?_eq_getElem hi]
    rfl
  · cases h
    rename_i x
    rw [signs_length] at hl
    have hl' : x.length < 2 ^ 24 := hl
    have hs : sizeLine = 2 ^ 24 := rfl
    show (none : Option D).or ((none : Option D).or (if x.length ≤ sizeLine then (atI x.cps.toList i).map fun c => D.str ⟨#[c]⟩ else none)) = _
    rw [if_pos (by omega)]
    have hi2 : i < (x.cps.toList.length : Nat) := by
      have := h1
      rw [signs_length] at this
      rw [Array.length_toList]
      exact this
    have hi3 : i.toNat < x.cps.toList.length := by omega
    rw [atI_ok h0 hi2, List.getElem?_eq_getElem hi3]
    show some _ = some _
    congr 1
    simp [signs]
  · cases h
theorem pickF_ok : ∀ ds ω, pickF ds ω ≠ .bad → runB 2 (gPick drawF) ds ω = pickF ds ω := by
  intro ds ω h
  unfold pickF at h ⊢
  split at h
  · rename_i d
    split at h
    · rename_i xs hx
      split at h
      · rename_i hc
        rw [if_pos hc]
        obtain ⟨h1, h2, h3⟩ := hc
        have e1 := gLen_choices hx h2
        have hn : (0 : Int) < (xs.length : Nat) := by omega
        have e2 : drawF [.st, .int xs.length] ω = .ok (.int (drawI xs.length ω)) (drawO xs.length ω) := if_pos ⟨hn, by omega, h3⟩
        obtain ⟨d1, d2⟩ := drawI_lt (ω := ω) hn
        have e3 := gIx_choices hx h2 d1 d2
        show Rs.bind ((gPick drawF) [.val .st, .val d] ω) _ = _
        simp only [gPick, sRet, eOp2, eCall, eOpN, eVar, aCons, aNil, Rs.bind_ok, rs1_some, List.getElem?_cons_zero, List.getElem?_cons_succ, e1, e2, e3]
      · exact absurd rfl h
    · exact absurd rfl h
  · exact absurd rfl h
end DL

namespace DL
open PySem PySem.Spec PyProof.Rows L2 LamX
theorem hu_of {ts : List (Addr × Str)} (nd : (ts.map (·.1)).Nodup) {P : Addr} {q : Str} (h : (P, q) ∈ ts) : ∀ p ∈ ts, p.1 = P → p.2 = q := by
  induction ts with
  | nil => cases h
  | cons t r ih =>
    rw [List.map_cons, List.nodup_cons] at nd
    intro p hp e
    rcases List.mem_cons.mp hp with rfl | hp
    · rcases List.mem_cons.mp h with h | h
      · rw [← h]
      · exact absurd (List.mem_map.mpr ⟨_, h, e.symm⟩) nd.1
    · rcases List.mem_cons.mp h with h | h
      · exact absurd (List.mem_map.mpr ⟨p, hp, by rw [e, ← h]⟩) nd.1
      · exact ih nd.2 h p hp e
theorem tabs_new {T : List (Addr × Str)} {H : Hp} (h : ∀ p ∈ T, H p.1 = some (.tbl #[])) : Tabs T H := fun p hp => ⟨#[], h p hp, trivial, fun pos cv e => by cases e⟩
theorem units1 {n m : Nat} (h : n + 64 < m) : n + 1 < m := by omega
theorem kb_cs_of {kb : List (Cn × Cn × Bool)} {cs : List Str} (h : (kb.all fun p => match p.1 with | .own c => decide (c ∈ cs) | _ => true) = true) : ∀ p ∈ kb, ∀ c, p.1 = .own c → c ∈ cs := fun p hp c e => by
  have q := List.all_eq_true.mp h p hp
  rw [e] at q
  exact of_decide_eq_true q
section
variable {Pr : Program} {w : World} {K : PySem.W.Frag} {mg : Str → Option Value} {base : Heap} {x qual : Str} {st : Stmt} {fd : FuncData} {k : Nat}
theorem fun_of {f : Addr} (F : FunD K x qual (defArgs st) (defBody st) (defScope st) [] [] f fd) : Fun K x qual st f fd := by
  have kp := F.kp
  obtain ⟨oc, od, dV, kV, doc, pm, an, cdv, ct, osl, rfl, lk, hcd, hD, _⟩ := F.ex
  rcases hD with ⟨_, rfl⟩ | ⟨e, _⟩
  · exact ⟨⟨oc, od, kV, doc, pm, an, cdv, ct, osl, rfl, lk, hcd⟩, kp⟩
  · exact absurd rfl e
theorem law_okC {T : List (Addr × Str)} {N : List Str} {g : EvS} (F : FunD K x qual (defArgs st) (defBody st) (defScope st) [] [] (He.ga K x) fd) (sc : FnScope ("script" :: "state" :: N) ["script"] (defScope st))
    (hb : ∀ (cdv : Value), cdv = .ref (He.codeOf K (x, none)) → ∀ (A : Around) (outer : List Env) (s : Shared) (H : Hp) (E : XK), Room k (A.deeper (envOfC qual (defScope st) s.heap.objs.size (He.ga K x) cdv)) → Takes (cxOf (L2.CX Pr w) Pr w K mg base ("script" :: "state" :: N) qual (defScope st) (He.ga K x) cdv A outer s H E) (fun cls d _ H => E cls d H) →
      ∃ st0 rest, defBody st = st0 :: rest ∧ PS (cxOf (L2.CX Pr w) Pr w K mg base ("script" :: "state" :: N) qual (defScope st) (He.ga K x) cdv A outer s H E) st0 (tAsg (tBegun K T E) (gName 1)) ∧
        PSsd (cxOf (L2.CX Pr w) Pr w K mg base ("script" :: "state" :: N) qual (defScope st) (He.ga K x) cdv A outer s H E) ⟨E, PD T⟩ rest g) :
    FnOk Pr w K mg base (L2.CX Pr w) (k + 1) (He.ga K x) fd ["script"] (spLaw K T N.length g) := by
  obtain ⟨oc, od, dV, kV, doc, pm, an, cdv, ct, osl, rfl, lk, hcd, _, _⟩ := F.ex
  obtain ⟨c, ec⟩ := He.codeIn_ref hcd
  have e2 : cdv = .ref (He.codeOf K (x, none)) := by
    have := He.codeOf_eq (p := (x, none)) lk ec
    rw [this, ec]
  refine fn_of lk hcd sc (fun vs H Q E ⟨a, ns, h, _⟩ => by rw [h]; rfl) fun A outer s H vs Q E hr h => ?_
  obtain ⟨a, ns, rfl, hs, hl, tT, ⟨ω', hg⟩, h⟩ := h
  obtain ⟨st0, rest, eb, p0, hrest⟩ := hb cdv e2 A outer s H E hr (takes_of rfl rfl rfl rfl)
  obtain ⟨t, p1, q1⟩ := hrest.ex
  refine ⟨_, by rw [eb]; exact pss_cons p0 p1, ?_⟩
  refine ⟨_, rfl, a, ns, rfl, hs, hl, tT, fun sa ga ca H' fr n1 n2 n3 dg tT' => ?_⟩
  let Z : Addr → Prop := fun b => b = sa ∨ b = ga ∨ b = ca
  let M : Fm := ⟨sa, Z, Z, fun ω H => DrawG sa ga ca ω H ∧ Tabs T H, H'⟩
  have na : Tr H a → ¬ Z a := fun t z => by
    rcases z with z | z | z
    · exact n1 (z ▸ t)
    · exact n2 (z ▸ t)
    · exact n3 (z ▸ t)
  have rs : Rep K sa Z H' (.ref a) (.scr ns) := by
    have r := scr_rep (N := Z) (sa := sa) hs hl na
    exact r.mono (Z := fun _ => False) fr fun _ z => z.elim
  have S0 : DSt K (PD T) M (fun _ => none) (L2.start ("script" :: "state" :: N) [V.ref a, V.ref sa]) H' ([D.scr ns, D.st].map .val ++ List.replicate N.length .emp) (om0 ns) := by
    refine DSt.start (M := M) (n := 2) (ds := [.scr ns, .st]) ⟨ga, ca, rfl, rfl⟩ (fun _ z => z) PD.gm ⟨dg, tT'⟩ (fun b z => ?_) (.cons rs (.cons .st .nil)) rfl (by show N.length + 1 + 1 = 2 + (N.length + 1 + 1 - 2); omega)
    rcases z with z | z | z
    · rw [z]; exact ⟨_, dg.d, trivial⟩
    · rw [z]; exact ⟨_, dg.g, trivial⟩
    · rw [z]; exact ⟨_, dg.c, trivial⟩
  have es : (L2.start ("script" :: "state" :: N) [V.ref a]).set 1 (some (V.ref sa)) = L2.start ("script" :: "state" :: N) [V.ref a, V.ref sa] := by
    unfold L2.start
    rfl
  show t _ ((L2.start ("script" :: "state" :: N) [V.ref a]).set 1 (some (V.ref sa))) H'
  rw [es]
  refine q1 M _ _ _ _ (om0 ns) _ S0 ?_
  show PostS _ M _ _ (g (.val (.scr ns) :: .val .st :: List.replicate N.length .emp) (om0 ns)) _ _
  rw [hg]
  intro v H2 _ _ r
  cases r
  exact h H2
end
end DL

namespace DL
open PySem PySem.Spec PyProof.Rows L2 LamX
open SX (S S_tl S_inj S_len S_cat)
/-! ### texts as lists of signs -/
abbrev tl (x : Str) : List Nat := x.cps.toList
theorem str_S (x : Str) : D.str x = D.str (S (tl x)) := by rw [S_tl]
theorem tl_S (l : List Nat) : tl (S l) = l := rfl
theorem signs_eq (x : Str) : signs x = (tl x).map fun c => D.str (S [c]) := rfl
theorem bls_map {α : Type} (b : α → Bool) : ∀ l : List α, blsOf (l.map fun c => D.bl (b c)) = some (l.map b)
  | [] => rfl
  | c :: r => by
    show (blsOf (r.map fun c => D.bl (b c))).map (b c :: ·) = _
    rw [bls_map b r]
    rfl
theorem gAll_map {α : Type} (b : α → Bool) (l : List α) : gAll [.lst (l.map fun c => D.bl (b c))] = some (.bl (l.all b)) := by
  show (blsOf _).map _ = _
  rw [bls_map]
  show some (D.bl ((l.map b).all id)) = _
  rw [List.all_map]
  rfl
theorem ints_map {α : Type} (b : α → Int) : ∀ l : List α, intsOf (l.map fun c => D.int (b c)) = some (l.map b)
  | [] => rfl
  | c :: r => by
    show (intsOf (r.map fun c => D.int (b c))).map (b c :: ·) = _
    rw [ints_map b r]
    rfl
theorem gSum_map {α : Type} (b : α → Int) (l : List α) : gSum [.lst (l.map fun c => D.int (b c))] = some (.int (l.map b).sum) := by
  show (intsOf _).map _ = _
  rw [ints_map]
  rfl
/-- a comprehension without tests and effects over a mapped list -/
theorem compF_map {α : Type} {g : EvG} {fe : EvE} {δ : Sls} {ω : Om} (u v : α → D) : ∀ l : List α, (∀ c, c ∈ l → ∃ δ1, g (u c) δ ω = some δ1 ∧ fe δ1 ω = .ok (v c) ω) → compF g tTrue fe δ (l.map u) ω = .ok (l.map v) ω
  | [], _ => rfl
  | c :: r, h => by
    obtain ⟨δ1, h1, h2⟩ := h c (by simp)
    have ih := compF_map u v r fun x hx => h x (by simp [hx])
    rw [List.map_cons]
    unfold compF
    rw [h1]
    dsimp only [tTrue]
    rw [Rs.bind_ok, if_pos rfl, h2, Rs.bind_ok, ih, Rs.bind_ok]
    rfl
theorem loopF_step {g : EvG} {body : EvS} {d : D} {ds : List D} {δ δ1 δ2 : Sls} {ω ω2 : Om} (hg : g d δ ω = some δ1) (hb : body δ1 ω = .ok (.nx δ2) ω2) : loopF g body (d :: ds) δ ω = loopF g body ds δ2 ω2 := by
  show (match g d δ ω with
    | none => (Rs.bad : Rs Fl)
    | some δ1 => (body δ1 ω).bind fun fl ω2 => match fl with
      | .nx δ2 => loopF g body ds δ2 ω2
      | .ct δ2 => loopF g body ds δ2 ω2
      | .bk δ2 => .ok (.nx δ2) ω2
      | .rt d => .ok (.rt d) ω2) = _
  rw [hg]
  dsimp only
  rw [hb]
  rfl
theorem loopF_nil {g : EvG} {body : EvS} {δ : Sls} {ω : Om} : loopF g body [] δ ω = .ok (.nx δ) ω := rfl
/-! ### slices -/
theorem cut_to {l : List Nat} {k : Nat} : cutS (S l) none (some (k : Int)) = S (l.take k) := by
  unfold cutS
  rw [HT.sIx_none, HT.sIx_nat, List.drop_zero, Nat.sub_zero, S_len]
  show S (l.take (min k l.length)) = _
  congr 1
  by_cases h : k ≤ l.length
  · rw [Nat.min_eq_left h]
  · rw [Nat.min_eq_right (by omega), List.take_length, List.take_of_length_le (by omega)]
theorem cut_from {l : List Nat} {k : Nat} : cutS (S l) (some (k : Int)) none = S (l.drop k) := by
  unfold cutS
  rw [HT.sIx_none, HT.sIx_nat, S_len]
  show S ((l.drop (min k l.length)).take (l.length - min k l.length)) = _
  by_cases h : k ≤ l.length
  · rw [Nat.min_eq_left h, List.take_of_length_le (by rw [List.length_drop]; omega)]
  · rw [Nat.min_eq_right (by omega), Nat.sub_self, List.take_zero, List.drop_eq_nil_of_le (by omega)]
theorem cut_mid {l : List Nat} {a b : Nat} (h : a ≤ b) : cutS (S l) (some (a : Int)) (some (b : Int)) = S ((l.drop a).take (b - a)) := by
  unfold cutS
  rw [HT.sIx_nat, HT.sIx_nat, S_len]
  show S ((l.drop (min a l.length)).take (min b l.length - min a l.length)) = _
  congr 1
  by_cases h1 : a ≤ l.length
  · rw [Nat.min_eq_left h1]
    by_cases h2 : b ≤ l.length
    · rw [Nat.min_eq_left h2]
    · rw [Nat.min_eq_right (by omega), List.take_of_length_le (by rw [List.length_drop]; omega), List.take_of_length_le (by rw [List.length_drop]; omega)]
  · rw [Nat.min_eq_right (by omega : l.length ≤ a), List.drop_eq_nil_of_le (by omega), List.drop_eq_nil_of_le (by omega)]
    simp
theorem gSl_S {l : List Nat} {lo hi : Option Int} (h : l.length ≤ sizeLine) : gSl (.str (S l)) lo hi = some (.str (cutS (S l) lo hi)) := by
  show (none : Option D).or ((none : Option D).or (if (S l).length ≤ sizeLine then some (D.str (cutS (S l) lo hi)) else none)) = _
  rw [S_len, if_pos h]
  rfl
theorem gAdd_S {a b : List Nat} (h : a.length + b.length ≤ sizeLine) : gAdd (.str (S a)) (.str (S b)) = some (.str (S (a ++ b))) := by
  show (none : Option D).or ((if (S a).length + (S b).length ≤ sizeLine then some (D.str (S a ++ S b)) else none).or _) = _
  rw [S_len, S_len, if_pos h, S_cat]
  rfl
theorem gLen_S {l : List Nat} (h : l.length ≤ sizeLine) : gLen [.str (S l)] = some (.int l.length) := by
  show (if (S l).length ≤ sizeLine then some (D.int (S l).length) else none) = _
  rw [S_len, if_pos h]
theorem gEq_S (a b : List Nat) : gEq (.str (S a)) (.str (S b)) = some (.bl (decide (a = b))) := by
  show (if scal (.str (S a)) (.str (S b)) = true then some (D.bl (decide (V.str (S a) = V.str (S b)))) else none).or _ = _
  rw [if_pos (show scal (.str (S a)) (.str (S b)) = true from rfl)]
  show some _ = some _
  congr 2
  by_cases h : a = b
  · rw [h]; simp
  · rw [decide_eq_false h, decide_eq_false]
    intro e
    injection e with e
    exact h (S_inj e)
theorem gNe_S (a b : List Nat) : gNe (.str (S a)) (.str (S b)) = some (.bl (!decide (a = b))) := by
  show (if scal (.str (S a)) (.str (S b)) = true then some (D.bl (!decide (V.str (S a) = V.str (S b)))) else none).or _ = _
  rw [if_pos (show scal (.str (S a)) (.str (S b)) = true from rfl)]
  show some _ = some _
  congr 3
  by_cases h : a = b
  · rw [h]; simp
  · rw [decide_eq_false h, decide_eq_false]
    intro e
    injection e with e
    exact h (S_inj e)
/-! ### the last c -/
theorem at_one {y : List Nat} {c i : Nat} : StrLaws.At (S y) (S [c]) (S y).length i ↔ y[i]? = some c := by
  unfold StrLaws.At Builtin.Str.subAt
  rw [S_len, S_len]
  constructor
  · rintro ⟨h1, h2⟩
    have e := congrArg Array.toList (eq_of_beq h2)
    simp only [Array.toList_extract] at e
    have e2 : (y.drop i).take 1 = [c] := by simpa [List.extract] using e
    have h3 : i < y.length := by simp at h1; omega
    have e3 := congrArg (fun l => l[0]?) e2
    simp at e3
    exact e3
  · intro h
    have h3 : i < y.length := (List.getElem?_eq_some_iff.mp h).1
    refine ⟨by simp; omega, ?_⟩
    apply beq_iff_eq.mpr
    apply Array.toList_inj.mp
    have e2 : (y.drop i).take 1 = [c] := by
      rw [List.drop_eq_getElem_cons h3]
      rw [List.getElem?_eq_getElem h3] at h
      simp [Option.some.inj h]
    simpa [List.extract] using e2
/-- .index: the first c -/
theorem index_first {p q : List Nat} {c : Nat} (h : c ∉ p) : gIndex (.str (S (p ++ c :: q))) [.str (S [c])] = some (.int p.length) := by
  show (match Builtin.Str.occurrences (S (p ++ c :: q)) (S [c]) 0 (S (p ++ c :: q)).length 1 with
    | k :: _ => some (D.int (k : Nat))
    | [] => none) = _
  rcases StrLaws.occ_head (S (p ++ c :: q)) (S [c]) 1 (Nat.le_refl _) with ⟨_, hn⟩ | ⟨i, r, e, h1, h2⟩
  · exact absurd (at_one.mpr (by simp)) (hn p.length)
  · rw [e]
    have h1' := at_one.mp h1
    have hp : (p ++ c :: q)[p.length]? = some c := by simp
    have e3 : i = p.length := by
      rcases Nat.lt_trichotomy i p.length with hlt | he | hgt
      · rw [List.getElem?_append_left hlt] at h1'
        exact absurd (List.mem_of_getElem? h1') h
      · exact he
      · exact absurd (at_one.mpr hp) (h2 p.length hgt)
    rw [e3]
/-- a list is cut at its last c -/
theorem last_cut {c : Nat} : ∀ {l : List Nat}, c ∈ l → ∃ b e, l = b ++ c :: e ∧ c ∉ e
  | x :: r, h => by
    by_cases hr : c ∈ r
    · obtain ⟨b, e, h1, h2⟩ := last_cut hr
      exact ⟨x :: b, e, by rw [h1]; rfl, h2⟩
    · rcases List.mem_cons.mp h with rfl | h
      · exact ⟨[], r, rfl, hr⟩
      · exact absurd h hr
theorem last_cut_eq {c : Nat} {b e b' e' : List Nat} (h : b ++ c :: e = b' ++ c :: e') (h1 : c ∉ e) (h2 : c ∉ e') : b = b' ∧ e = e' := by
  have hr := congrArg List.reverse h
  simp only [List.reverse_append, List.reverse_cons, List.append_assoc] at hr
  have key : ∀ (e e' b b' : List Nat), c ∉ e → c ∉ e' → e ++ ([c] ++ b) = e' ++ ([c] ++ b') → e = e' ∧ b = b' := by
    intro e
    induction e with
    | nil =>
      intro e' b b' _ h2 h
      cases e' with
      | nil => simp at h; exact ⟨rfl, h⟩
      | cons y r => simp at h; exact absurd (by rw [h.1]; exact List.mem_cons_self) h2
    | cons x r ih =>
      intro e' b b' h1 h2 h
      cases e' with
      | nil => simp at h; exact absurd (by rw [h.1]; exact List.mem_cons_self) h1
      | cons y r' =>
        simp only [List.cons_append, List.cons.injEq] at h
        obtain ⟨h3, h4⟩ := h
        have := ih r' b b' (fun z => h1 (List.mem_cons_of_mem _ z)) (fun z => h2 (List.mem_cons_of_mem _ z)) h4
        exact ⟨by rw [h3, this.1], this.2⟩
  obtain ⟨k1, k2⟩ := key e.reverse e'.reverse b.reverse b'.reverse (by simpa using h1) (by simpa using h2) hr
  exact ⟨List.reverse_inj.mp k2, List.reverse_inj.mp k1⟩
/-! ### split at one sign -/
theorem spl_all {c : Nat} {p : Nat → Bool} (l : List Nat) : (TL.spl [c] 0 [] l).all (fun r => r.all p) = l.all fun x => p x || decide (x = c) := by
  have key : ∀ (n : Nat) (l : List Nat), l.length ≤ n → (TL.spl [c] 0 [] l).all (fun r => r.all p) = l.all fun x => p x || decide (x = c) := by
    intro n
    induction n with
    | zero =>
      intro l h
      have : l = [] := List.length_eq_zero_iff.mp (by omega)
      subst this
      rfl
    | succ n ih =>
      intro l h
      by_cases hc : c ∈ l
      · obtain ⟨a, b, e, hn⟩ : ∃ a b, l = a ++ c :: b ∧ c ∉ a := List.append_of_mem hc |>.elim fun a ⟨b, e⟩ => by
          have : ∀ (l : List Nat), c ∈ l → ∃ a b, l = a ++ c :: b ∧ c ∉ a := fun l => by
            induction l with
            | nil => intro h; cases h
            | cons x r ih2 =>
              intro h
              by_cases hx : x = c
              · exact ⟨[], r, by rw [hx]; rfl, by simp⟩
              · rcases List.mem_cons.mp h with h | h
                · exact absurd h.symm hx
                · obtain ⟨a, b, e, hn⟩ := ih2 h
                  exact ⟨x :: a, b, by rw [e]; rfl, by simp [hn]; exact fun z => hx z.symm⟩
          exact this l hc
        subst e
        have e1 := TL.spl_part1 (S := []) (acc := []) (rest := b) hn
        have e2 : a ++ ([c] ++ b) = a ++ c :: b := rfl
        rw [e2] at e1
        rw [e1, List.all_cons, List.nil_append, ih b (by simp at h; omega), List.all_append, List.all_cons]
        have e3 : (a.all fun x => p x || decide (x = c)) = a.all p := by
          rw [Bool.eq_iff_iff, List.all_eq_true, List.all_eq_true]
          refine ⟨fun h x hx => ?_, fun h x hx => ?_⟩
          · have := h x hx
            have hne : x ≠ c := fun z => hn (z ▸ hx)
            simpa [hne] using this
          · rw [h x hx]; rfl
        rw [e3]
        simp
      · have e1 := TL.spl_last1 (S := []) (acc := []) hc
        rw [e1, List.nil_append, List.all_cons, List.all_nil, Bool.and_true]
        rw [Bool.eq_iff_iff, List.all_eq_true, List.all_eq_true]
        refine ⟨fun h x hx => ?_, fun h x hx => ?_⟩
        · rw [h x hx]; rfl
        · have := h x hx
          have hne : x ≠ c := fun z => hc (z ▸ hx)
          simpa [hne] using this
  exact key l.length l (Nat.le_refl _)
end DL

namespace DL
open PySem PySem.Spec PyProof.Rows L2

/-! ### an own exception's __init__ that says super().__init__('..') and keeps its one argument -/
def iPar (f : Str) (p1 p2 : Pos) : Arguments := { posonlyargs := [], args := [⟨"self", none, p1⟩, ⟨f, none, p2⟩], vararg := none, kwonlyargs := [], kw_defaults := [], kwarg := none, defaults := [] }
def iScope (f : Str) : Scope := { kind := .function, names := [("self", .local), (f, .local), ("__class__", .free), ("super", .globalImplicit)], isGenerator := false, isCoroutine := false, more := [] }
def iBody (m f : Str) (k : Nat) (q0 q1 q2 q3 q4 q5 q6 q7 q8 q9 : Pos) : List Stmt :=
  [.Expr (.Call (.Attribute (.Call (.Name "super" q0) [] [] q1) "__init__" q2) [.Constant (.str m) k q3] [] q4) q5, .Assign [.Attribute (.Name "self" q6) f q7] (.Name f q8) q9]
/-- what the written part tells of such a class -/
structure IniC (K : PySem.W.Frag) (C : Addr) (f : Str) : Prop where
  T : OexC K C
  sup : PySem.W.ks_superIn K C C "__init__" = some (some (.builtin "ValueError.__init__"))
  ve : PySem.W.subIn K (.ref C) (.type "ValueError") = some true
  fld : PySem.W.findIn K (.ref C) f = some none
/-- nothing of a third party is loaded: told by the object of the statics alone -/
def NoThird (h : Heap) : Prop := ∃ o, h.get? cStatics = some o ∧ PySem.W.nsIn [(cStatics, o)] cStatics "thirdparty.any" = some none
theorem NoThird.keeps {h h' : Heap} (t : NoThird h) (k : ∀ b o, h.get? b = some o → h'.get? b = some o) : NoThird h' := by
  obtain ⟨o, h1, h2⟩ := t
  exact ⟨o, k _ _ h1, h2⟩
theorem NoThird.looks {M : Model} {h : Heap} {C : Addr} (t : NoThird h) : PySem.W.Looks M h (opaqueClassAbove (.ref C)) none := by
  obtain ⟨o, h1, h2⟩ := t
  refine PySem.W.looks_opaque (K := [(cStatics, o)]) (fun b u z => ?_) h2
  by_cases hb : b = cStatics
  · subst hb
    rw [List.lookup_cons_self] at z
    cases z
    exact h1
  · have e : (b == cStatics) = false := by simpa using hb
    rw [List.lookup_cons, e] at z
    cases z
theorem NoThird.noSeq {o : Obj} (h : PySem.W.nsIn [(cStatics, o)] cStatics "thirdparty.any" = some none) : ∀ vs n, o.data ≠ .seq vs n := by
  intro vs n e
  obtain ⟨c, d, dt, sl⟩ := o
  dsimp only at e
  subst e
  unfold PySem.W.nsIn at h
  rw [List.lookup_cons_self] at h
  cases h
def thB (g : Addr → Option Obj) : Bool := match g cStatics with
  | some o => decide (PySem.W.nsIn [(cStatics, o)] cStatics "thirdparty.any" = some none)
  | none => false
theorem thB_ok {h : Heap} (e : thB h.get? = true) : NoThird h := by
  unfold thB at e
  split at e
  · rename_i o ho
    exact ⟨o, ho, of_decide_eq_true e⟩
  · cases e
section
variable {prog : Program} {w : World} {A : Around} {R : Result → Shared → Prop} {K : PySem.W.Frag} {mg : Str → Option Value} {base hp : Heap} {g : Array GenState} {d : Drawn} {t : Nat} {os : OsState}
variable {e C fI cc cda t0 : Addr} {v : Value} {args : Args} {m f qual file : Str} {k : Nat} {q0 q1 q2 q3 q4 q5 q6 q7 q8 q9 p1 p2 : Pos} {dV kV doc pm ct oc ccl cl : Value} {an od cdd cld : Option Addr} {osl ccs csl : Array (Option Value)} {vs : Array Value} {tf : Tok}
theorem mw_call {E : Value → Shared → Prop} {u : Addr} {rest : List Value} {Q : Value → Shared → Prop} {nm q : Str} {N : Addr} {bs bm : List Value} {hdct : Bool} {sn : List Str} {sub : List Value} {ab : Bool} {col : Option Bool} {dd : Option Addr} {k0 k1 k2 k3 k5 : Option Value}
    (hC : hp.get? C = some (excClassObj nm q C N bs bm hdct sn sub ab col dd k0 k1 k2 k3 k5 "ValueError.__new__")) (he : hp.get? e = some (PySem.HandSPX.excO C t0)) (hu : hp.get? u = some (PySem.W.kxs_mw "ValueError.__init__" e)) (hrest : rest.length ≤ sizeLine)
    (hq : ∀ h' t1, (∀ b o, b ≠ e → hp.get? b = some o → h'.get? b = some o) → h'.get? e = some (PySem.HandSPX.excO C t1) → Q .none ⟨h', g, d, t, os⟩) :
    wpAny (model prog w) A (call (.ref u) rest) Q E ⟨hp, g, d, t, os⟩ := by
  refine wpAny_call (codeAny_of_tree ?_)
  show wpAny _ A.in1 (callAny (.ref u) ⟨rest, []⟩) _ _ _
  simp only [callAny]
  refine wpAny_bind (wpAny_load hu ?_)
  have c1 : (Value.type "method-wrapper" == Value.type "method" || Value.type "method-wrapper" == Value.type "builtin_function_or_method" || Value.type "method-wrapper" == Value.type "method-wrapper") = true := by decide
  simp only [PySem.W.kxs_mw, c1, if_true]
  refine PySem.W.KFB.if_so (by decide) (wpAny_bind (PySem.ESX.check_bound F.excBase_ValueError hC he rfl (wpAny_bind (wpAny_pure (wpAny_pure ⟨Code.quiet_builtin _ (by decide +kernel), codeAny_builtin F.excBase_ValueError.initEntry ?_⟩)))))
  rw [Around.under_plainId F.excBase_ValueError.init.plain _]
  exact PySem.W.exc_init_tree (cls := .ref C) (t0 := t0) (dv := none) (c2 := .none) (c3 := .none) (b4 := .bool false) he hrest fun h' h1 h2 _ => hq h' _ h1 h2
theorem mc_eq {o : Expr} {name : Str} {apos pos : Pos} {env : Env} {ov : Value} {n : Nat} {ar : List (Bool × Sem Value)} (h1 : methodCallForm n ar [] = true) (h2 : (apos.endLine == pos.line) = true) :
    methodCall o name apos pos env ov n ar [] = (do
      let (f, first) ← holding [ov] (getMethod ov name (do return (← importBound o env).getD true))
      callWith pos f first ar []) := by
  unfold methodCall calleeOf methodCallPos
  rw [h1, h2]
  rfl
theorem mc_eval {o : Expr} {name : Str} {apos pos : Pos} {env : Env} {ar : List Expr} (h1 : methodCallForm (ar.length + 0) (backTo pos (starEach ar env)) [] = true) (h2 : (apos.endLine == pos.line) = true) :
    eval (.Call (.Attribute o name apos) ar [] pos) env = (do
      let ov ← attributeBase o name env (eval o env)
      standAt apos.atName
      let (f, first) ← holding [ov] (getMethod ov name (do return (← importBound o env).getD true))
      callWith pos f first (backTo pos (starEach ar env)) []) := by
  show (attributeBase o name env (eval o env) >>= fun ov => standAt apos.atName >>= fun _ => methodCall o name apos pos env ov (ar.length + 0) (backTo pos (starEach ar env)) []) = _
  exact congrArg (attributeBase o name env (eval o env) >>= ·) (funext fun ov => congrArg (standAt apos.atName >>= ·) (funext fun _ => mc_eq h1 h2))
theorem ini_run (M : Mod K mg base) (hb : ∀ b o, base.get? b = some o → hp.get? b = some o) (nt : NoThird base) (hroom : A.depth < recursionLimit) (IC : IniC K C f)
    (lk : K.lookup fI = some ⟨oc, od, .func (PySem.W.ksFn "__init__" qual (iPar f p1 p2) (iBody m f k q0 q1 q2 q3 q4 q5 q6 q7 q8 q9) (iScope f) dV kV doc pm an (.ref cda) ct cc), osl⟩)
    (hcd : PySem.W.codeIn K (.ref cda) qual = true) (hcode : K.lookup cda = some ⟨ccl, cdd, .fields vs, ccs⟩) (hvs : vs[2]? = some (.str file tf)) (hfile : ((prog.main.file : Str) == file) = true) (hcell : K.lookup cc = some ⟨cl, cld, .cell (some (.ref C)), csl⟩)
    (htop : (prog.main.scope.names.lookup ("super" : Str)).isSome = false) (hm : mg "super" = none) (hf2 : (("self" : Str) == f) = false) (hfd : (f == ("__debug__" : Str)) = false)
    (kk : (iScope f).names.lookup ("super" : Str) = some .globalImplicit) (kc : (iScope f).names.lookup ("__class__" : Str) = some .free) (kf : (iScope f).names.lookup f = some .local)
    (hbind : BindsTo ⟨hp, g, d, t, os⟩ (PySem.W.ksFn "__init__" qual (iPar f p1 p2) (iBody m f k q0 q1 q2 q3 q4 q5 q6 q7 q8 q9) (iScope f) dV kV doc pm an (.ref cda) ct cc) args [("self", .ref e), (f, v)]) (he : hp.get? e = some (PySem.HandSPX.excO C t0)) (hne : base.get? e = none)
    (hpos : (q2.endLine == q4.line) = true) (hl : swapsWith (.Name f q8) (some (.Attribute (.Name "self" q6) f q7)) q9.line (PySem.callEnv (PySem.W.ksFn "__init__" qual (iPar f p1 p2) (iBody m f k q0 q1 q2 q3 q4 q5 q6 q7 q8 q9) (iScope f) dV kV doc pm an (.ref cda) ct cc) hp.objs.size fI) = pure false)
    (hq : ∀ h' dx tk' t1, (∀ b o, b ≠ e → hp.get? b = some o → h'.get? b = some o) → hp.objs.size ≤ dx → h'.get? e = some ({ cls := .ref C, dict := some dx, data := .fields #[.ref t1, .none, .none, .none, .bool false, .none] } : Obj) → h'.Ns1 dx (fun y => if y = f then some v else none) → R (.ok (.ret .none)) ⟨h', g, d, tk', os⟩) :
    codeAny (model prog w) A (.call (.ref fI) args) R ⟨hp, g, d, t, os⟩ := by
  have kin : K.In hp := M.kin.keeps hb
  have ks : (iScope f).names.lookup ("self" : Str) = some .local := by
    show (("self", NameKind.local) :: _ : List (Str × NameKind)).lookup ("self" : Str) = _
    rw [List.lookup_cons_self]
  obtain ⟨nm, q, N, bs, bm, sn, sub, ab, col, dd, k0, k1, k2, k3, k5, hC, hbm⟩ := IC.T.cls
  have hcl : PySem.W.clsIn K C = some { name := nm, bases := bs, mro := .ref C :: bm, ns := N, qualname := q, hasDict := true, slotNames := sn, subclasses := sub, abstract := ab, collection := col, hasDel := false } := by unfold PySem.W.clsIn; rw [hC] <;> rfl
  refine PySem.ks_codeAny_call_defAt (body := iBody m f k q0 q1 q2 q3 q4 q5 q6 q7 q8 q9) (binds := [("self", .ref e), (f, v)]) hroom (kin _ _ lk) rfl (M.nolimit.keeps hb) (PySem.W.codeRec_of kin hcd) rfl hbind ?_ ?_ (fun h1 hns hk1 => ?_) rfl rfl rfl
  · intro x hx
    simp only [iScope, PySem.W.ksFn, List.mem_cons, List.not_mem_nil, or_false] at hx
    rcases hx with rfl | rfl | rfl | rfl <;> exact fun z => nomatch z
  · intro x hx
    simp only [List.mem_cons, List.not_mem_nil, or_false] at hx
    rcases hx with rfl | rfl
    · exact ks
    · exact kf
  have kin1 : K.In h1 := kin.keeps hk1
  have hb1 : ∀ b o, base.get? b = some o → h1.get? b = some o := fun b o z => hk1 b o (hb b o z)
  have he1 := hk1 _ _ he
  have hC1 := kin1 _ _ hC
  have I1 : PySem.W.InstAt h1 e (PySem.HandSPX.excO C t0) C none := ⟨he1, rfl, rfl, trivial⟩
  obtain ⟨mb, hmb1, hmb2⟩ := M.blt
  show PySem.wpAt _ _ _ (execs (_ :: _ :: []) _) _ _ _
  refine PySem.ks_wpAt_execs_cons (PySem.ks_wpAt_Expr_any (PySem.ks_wpAt_MethodCall ?_ (mc_eval rfl hpos)))
  refine PySem.ks_wpAt_super_base kk kc (by decide) rfl (kin1 _ _ lk) rfl rfl rfl (kin1 _ _ hcode) rfl hvs hfile htop ?_
  refine PySem.W.ks_loadName_global rfl kk (Calls.loadGlobal_builtin (M.glob.keeps hb1) hm (hmb1.keeps hb1) ((hmb2 _ (by decide)).trans (by decide +kernel)) ⟨rfl, ?_⟩)
  refine wpAny_loadName_free rfl kc rfl ⟨_, kin1 _ _ hcell, rfl⟩ ?_
  have lself : ([("self", Value.ref e), (f, v)] : List (Str × Value)).reverse.lookup ("self" : Str) = some (.ref e) := by
    show ([(f, v), ("self", Value.ref e)] : List (Str × Value)).lookup ("self" : Str) = _
    rw [List.lookup_cons, hf2]
    exact List.lookup_cons_self
  have lf : ([("self", Value.ref e), (f, v)] : List (Str × Value)).reverse.lookup f = some v := by
    show ([(f, v), ("self", Value.ref e)] : List (Str × Value)).lookup f = _
    exact List.lookup_cons_self
  refine wpAny_loadName_local (v := .ref e) rfl ks hns lself ?_
  refine PySem.ks_wpAny_isType_cls hC1 rfl ⟨rfl, ?_⟩
  refine PySem.ks_wpAny_call_super hC1 rfl he1 rfl (fun c z => nomatch z) (PySem.W.looks_mroIn kin1 ?_) (fun h2 e2 k2 => ?_)
  · unfold PySem.W.mroIn
    rw [hcl]
    show (if (Value.ref C :: bm).isEmpty = true then none else some ((Value.ref C :: bm).contains (.ref C))) = some true
    rw [if_neg (fun z => nomatch z)]
    simp
  have kin2 : K.In h2 := kin1.keeps k2
  have he2 := k2 _ _ he1
  refine PySem.W.kxs_getMethod PySem.W.kxs_ValueError e2 (nt.keeps fun b o z => k2 b o (hb1 b o z)).looks (l₀ := .ref C :: bm) (fun A Q E s k q => wpAny_bind ((PySem.W.looks_clsIn kin2 hcl) A _ E s k (wpAny_pure q))) rfl kin2 ?_ ?_ (PySem.W.ks_ne kin1 I1 hcl) rfl ?_
  · have z := IC.sup
    unfold PySem.W.ks_superIn at z
    rw [hcl] at z
    exact z
  · exact (show PySem.W.InstAt h2 e (PySem.HandSPX.excO C t0) C none from ⟨he2, rfl, rfl, trivial⟩).type.andThen (PySem.W.looks_subIn kin2 IC.ve)
  -- the wrapper is called
  have he3 : (h2.push (PySem.W.kxs_mw "ValueError.__init__" e)).get? e = some (PySem.HandSPX.excO C t0) := Heap.get?_push_of_some _ he2
  have hu3 : (h2.push (PySem.W.kxs_mw "ValueError.__init__" e)).get? h2.objs.size = some (PySem.W.kxs_mw "ValueError.__init__" e) := Heap.get?_push_at rfl rfl
  have hC3 := Heap.get?_push_of_some (PySem.W.kxs_mw "ValueError.__init__" e) (kin2 _ _ hC)
  show wpAny _ _ (callWith q4 (.ref h2.objs.size) [] ((false, eval (.Constant (.str m) k q3) _) :: []) []) _ _ _
  refine PySem.W.kxs_callWith (i := "ValueError.__init__") (x := e) rfl (Calls.evalArgs_plain (Calls.spliced_cons (Calls.Constant_str (Calls.spliced_nil ⟨hu3, ?_⟩))))
  refine mw_call hC3 he3 hu3 (by show 1 ≤ sizeLine; rw [sizeLine_eq]; omega) fun h4 t1 k4 he4 => ?_
  -- self.f = f
  have up4 : ∀ b o, b ≠ e → h1.get? b = some o → h4.get? b = some o := fun b o hb z => k4 b o hb (Heap.get?_push_of_some _ (k2 b o z))
  have hLe : hp.objs.size ≠ e := Nat.ne_of_gt (Heap.lt_size he)
  have hns4 := hns.at (h' := h4) fun o q => up4 _ _ hLe q
  have kin4 : K.In h4 := fun b o z => up4 b o (fun q => by rw [q] at z; have y := M.kin _ _ z; rw [hne] at y; cases y) (kin1 _ _ z)
  refine PySem.ks_wpAt_execs_cons (PySem.wpAt_of_wpAny (plainObj_wpAny_Assign_Attribute (wpAny_Name (wpAny_loadName_local rfl kf hns4 lf ?_) hfd) hl))
  refine wpAny_Name (wpAny_loadName_local rfl ks hns4 lself ?_) (by decide)
  refine PySem.W.set_plain kin4 (ox := PySem.HandSPX.excO C t1) (od := none) ⟨he4, rfl, rfl, trivial⟩ IC.T.sa ?_
  refine PySem.HandSPX.exc_osa kin4 he4 hcl (show PySem.HandSPX.refsVE (.ref C :: bm) = true from hbm) rfl IC.fld (fun h' tk' dx k' dn dne hx hn => ?_)
  refine PySem.wpAt_of_wpAny (wpAny_execs_nil ?_)
  refine hq h' dx tk' t1 (fun b o hb z => k' b o hb (up4 b o hb (hk1 b o z))) ?_ hx hn
  obtain ⟨oL, _, _, hL, _⟩ := hns4
  exact Nat.le_trans (Nat.le_of_lt (Heap.lt_size hL)) dn
end
end DL

namespace DL
open PySem PySem.Spec L2
section
variable {prog : Program} {w : World} {A : Around} {E : Value → Shared → Prop} {R : Result → Shared → Prop} {h : Heap} {g : Array GenState} {d : Drawn} {t : Nat} {os : OsState}
variable {nm q : Str} {C N : Addr} {bs bm bmB : List Value} {hdct : Bool} {sn : List Str} {sub : List Value} {ab : Bool} {col : Option Bool} {dd : Option Addr} {k0 k1 k2 k3 k5 : Option Value} {B newId initId : String}
theorem check_new_kw {M : Model} (F : ExcBaseFacts B newId initId bmB) (same : ∀ Y : String, bm.contains (.type Y) = bmB.contains (.type Y)) {rest : List Value} {kw : List (Str × Value)} {Q : Unit → Shared → Prop}
    (hC : h.get? C = some (excClassObj nm q C N bs bm hdct sn sub ab col dd k0 k1 k2 k3 k5 newId)) (hq : Q () ⟨h, g, d, t, os⟩) : wpAny M A (checkBuiltinCall newId ⟨.ref C :: rest, kw⟩) Q E ⟨h, g, d, t, os⟩ := by
  have within : (Value.ref C :: bm).contains (.type B) = true := by rw [List.contains_cons, same, F.hasB]; exact Bool.or_true _
  have star := F.noStar
  simp only [checkBuiltinCall, F.newKind, F.newSplit, F.newRow]
  repeat (first | refine wpAny_loadPart_at hC ?_ | (refine wpAny_isSubtype_exc hC ?_; rw [within]) | refine wpAny_staticBase_exc hC ?_ | refine wpAny_madeBy_exc hC ?_ | (simp only [bne_self_eq_false, Bool.false_eq_true, if_false]) | wp_step)
  exact hq
theorem new_kw (F : ExcBaseFacts B newId initId bmB) (same : ∀ Y : String, bm.contains (.type Y) = bmB.contains (.type Y)) {rest : List Value} {kw : List (Str × Value)}
    (hC : h.get? C = some (excClassObj nm q C N bs bm hdct sn sub ab col dd k0 k1 k2 k3 k5 newId))
    (hq : R (.ok (.ret (.ref (h.objs.size + 1)))) ⟨(h.push (PySem.W.kdv_tup rest)).push (PySem.HandSPX.excO C h.objs.size), g, d, t, os⟩) (hrest : rest.length ≤ sizeLine) :
    codeAny (model prog w) A (.builtin newId ⟨.ref C :: rest, kw⟩) R ⟨h, g, d, t, os⟩ := by
  have hends := F.ends
  have inB : (Value.ref C :: bm).contains (.type B) = true := by rw [List.contains_cons, same, F.hasB]; exact Bool.or_true _
  have inA : (Value.ref C :: bm).contains (.type "AttributeError") = false := by rw [List.contains_cons, same, F.noAttr]; rfl
  have inN : (Value.ref C :: bm).contains (.type "NameError") = false := by rw [List.contains_cons, same, F.noName]; rfl
  refine codeAny_builtinAt F.entry ?_
  unfold Builtin.«BaseException.__new__»
  refine wpAt_bind ?_
  show wpAt _ _ _ (stack >>= _) _ _ _
  refine wpAt_bind (wpAt_stack fun pp lower => wpAt_of_wpAny ?_)
  wp_walk
  refine wpAt_of_wpAny ?_
  rw [F.owner]
  repeat (first | with_reducible refine wpAny_madeHere_exc F.canon hC ?_ | with_reducible refine wpAny_loadPart_at hC ?_ | (with_reducible refine wpAny_isSubtype_exc hC ?_; first | rw [inB] | rw [inA] | rw [inN]) | wp_step)
  show R _ _
  rw [Heap.size_push]
  exact hq
theorem type_call_kw (F : ExcBaseFacts B newId initId bmB) (same : ∀ Y : String, bm.contains (.type Y) = bmB.contains (.type Y)) {rest : List Value} {kw : List (Str × Value)} {fI : Addr} {Q : Fin → Shared → Prop}
    (hC : h.get? C = some (excClassObj nm q C N bs bm hdct sn sub ab col dd k0 k1 k2 k3 k5 newId))
    (hi : PySem.W.Looks (model prog w) h (typeLookup (.ref C) "__init__") (some (.ref fI))) (hb : ∀ self, PySem.W.Looks (model prog w) h (bindSpecial (.ref fI) self) (.ref fI, [self])) (hrest : rest.length ≤ sizeLine)
    (hq : codeAny (model prog w) A (.call (.ref fI) ⟨.ref (h.objs.size + 1) :: rest, kw⟩)
      (fun r s' => match r with | .ok (.ret v) => v = .none ∧ Q (.done (.ret (.ref (h.objs.size + 1)))) s' | .ok _ => False | .error e => E e s')
      ⟨(h.push (PySem.W.kdv_tup rest)).push (PySem.HandSPX.excO C h.objs.size), g, d, t, os⟩) :
    wpAny (model prog w) A (Builtin.«type.__call__» ⟨.ref C :: rest, kw⟩) Q E ⟨h, g, d, t, os⟩ := by
  repeat (first | with_reducible refine wpAny_loadPart_at hC ?_ | with_reducible refine wpAny_madeBy_exc hC ?_ | wp_step)
  refine codeAny_call_builtin_code (Code.quiet_builtin _ F.quiet) (check_new_kw F same hC (new_kw F same hC ?_ hrest))
  show wpAny _ _ _ _ _ _
  have kk : ∀ b o, h.get? b = some o → ((h.push (PySem.W.kdv_tup rest)).push (PySem.HandSPX.excO C h.objs.size)).get? b = some o := fun b o e => Heap.get?_push_of_some _ (Heap.get?_push_of_some _ e)
  have hC₁ := kk _ _ hC
  have here : ((h.push (PySem.W.kdv_tup rest)).push (PySem.HandSPX.excO C h.objs.size)).get? (h.objs.size + 1) = some (PySem.HandSPX.excO C h.objs.size) := by heap_get
  have own : (Value.ref C :: bm).contains (.ref C) = true := by simp
  have i1 := hi.keeps kk
  have b1 := (hb (.ref (h.objs.size + 1))).keeps kk
  unfold isInstance
  repeat (first | with_reducible refine wpAny_loadPart_at here ?_ | (with_reducible refine wpAny_isSubtype_exc hC₁ ?_; rw [own]) | wp_step)
  show wpAny _ _ (typeLookup (.ref C) _) _ _ _
  refine i1.at (wpAny_holding (wpAny_bind (b1.at (wpAny_bind (wpAny_call (codeAny_mono hq fun r s' z => ?_))))))
  rcases r with e | (v | _ | _ | _)
  all_goals try (first | exact z | exact False.elim z)
  obtain ⟨rfl, z⟩ := z
  first
    | exact wpAny_pure (wpAny_pure z)
    | (wp_walk; exact z)
theorem check_type_kw {M : Model} {rest : List Value} {kw : List (Str × Value)} {Q : Unit → Shared → Prop} (hC : h.get? C = some (excClassObj nm q C N bs bm hdct sn sub ab col dd k0 k1 k2 k3 k5 newId))
    (hq : Q () ⟨h, g, d, t, os⟩) : wpAny M A (checkBuiltinCall "type.__call__" ⟨.ref C :: rest, kw⟩) Q E ⟨h, g, d, t, os⟩ := by
  have f3 := tc_sub
  have isT : (⟨h, g, d, t, os⟩ : Shared).TypeIs (.ref C) "type" := ⟨_, hC, rfl⟩
  simp only [checkBuiltinCall, tc_kind, tc_split]
  repeat (any_goals (first | assumption | with_reducible refine wpAny_loadPart_at hC ?_ | with_reducible refine wpAny_onRaise ?_ | with_reducible refine wpAny_map ?_ | wp_step))
theorem call_kw (F : ExcBaseFacts B newId initId bmB) (same : ∀ Y : String, bm.contains (.type Y) = bmB.contains (.type Y)) {rest : List Value} {kw : List (Str × Value)} {fI : Addr}
    (hC : h.get? C = some (excClassObj nm q C N bs bm hdct sn sub ab col dd k0 k1 k2 k3 k5 newId))
    (hi : PySem.W.Looks (model prog w) h (typeLookup (.ref C) "__init__") (some (.ref fI))) (hb : ∀ self, PySem.W.Looks (model prog w) h (bindSpecial (.ref fI) self) (.ref fI, [self])) (hrest : rest.length ≤ sizeLine)
    (hq : codeAny (model prog w) (A.under (.builtin "type.__call__" ⟨.ref C :: rest, kw⟩)) (.call (.ref fI) ⟨.ref (h.objs.size + 1) :: rest, kw⟩) (PySem.W.InitBack (h.objs.size + 1) R)
      ⟨(h.push (PySem.W.kdv_tup rest)).push (PySem.HandSPX.excO C h.objs.size), g, d, t, os⟩) :
    codeAny (model prog w) A (.call (.ref C) ⟨rest, kw⟩) R ⟨h, g, d, t, os⟩ := by
  have f1 := tc_lookup
  have f2 := tc_bind (.ref C)
  have isT : (⟨h, g, d, t, os⟩ : Shared).TypeIs (.ref C) "type" := ⟨_, hC, rfl⟩
  refine codeAny_of_tree ?_
  show wpAny _ _ (callAny (.ref C) _) _ _ _
  repeat (any_goals (first | assumption | with_reducible refine wpAny_loadPart_at hC ?_ | wp_step))
  refine ⟨rfl, codeAny_call_builtin_at (Code.quiet_builtin _ (by decide +kernel)) entry_typeCall (check_type_kw hC (type_call_kw F same hC hi hb hrest (codeAny_mono hq fun r s' z => ?_)))⟩
  rcases r with e | (v | _ | _ | _) <;> exact z
end
end DL

namespace DL
open PySem PySem.Spec PyProof.Rows L2
/-! ### the written part's word of such a class, asked by a program -/
structure FOk (f : Str) : Prop where
  kk : (iScope f).names.lookup ("super" : Str) = some .globalImplicit
  kc : (iScope f).names.lookup ("__class__" : Str) = some .free
  kf : (iScope f).names.lookup f = some .local
  h2 : (("self" : Str) == f) = false
  hd : (f == ("__debug__" : Str)) = false
  bd : ∀ (qual : Str) (p1 p2 : Pos) (body : List Stmt) (doc pm cdv ct : Value) (an : Option Addr) (cc : Addr) (e u : Value), bindArgs (PySem.W.ksFn "__init__" qual (iPar f p1 p2) body (iScope f) .none .none doc pm an cdv ct cc) ⟨[e, u], []⟩ = pure ([("self", e), (f, u)] : List (Str × Value))
  bk : ∀ (qual : Str) (p1 p2 : Pos) (body : List Stmt) (doc pm cdv ct : Value) (an : Option Addr) (cc : Addr) (e u : Value), bindArgs (PySem.W.ksFn "__init__" qual (iPar f p1 p2) body (iScope f) .none .none doc pm an cdv ct cc) ⟨[e], [(f, u)]⟩ = pure ([("self", e), (f, u)] : List (Str × Value))
theorem fok_number : FOk "number" := ⟨by decide +kernel, by decide +kernel, by decide +kernel, by decide +kernel, by decide +kernel, fun _ _ _ _ _ _ _ _ _ _ _ _ => rfl, fun _ _ _ _ _ _ _ _ _ _ _ _ => rfl⟩
theorem fok_fault : FOk "fault" := ⟨by decide +kernel, by decide +kernel, by decide +kernel, by decide +kernel, by decide +kernel, fun _ _ _ _ _ _ _ _ _ _ _ _ => rfl, fun _ _ _ _ _ _ _ _ _ _ _ _ => rfl⟩
theorem fok_at : FOk "at" := ⟨by decide +kernel, by decide +kernel, by decide +kernel, by decide +kernel, by decide +kernel, fun _ _ _ _ _ _ _ _ _ _ _ _ => rfl, fun _ _ _ _ _ _ _ _ _ _ _ _ => rfl⟩
theorem fok_word : FOk "word" := ⟨by decide +kernel, by decide +kernel, by decide +kernel, by decide +kernel, by decide +kernel, fun _ _ _ _ _ _ _ _ _ _ _ _ => rfl, fun _ _ _ _ _ _ _ _ _ _ _ _ => rfl⟩
theorem fok_parts : FOk "parts" := ⟨by decide +kernel, by decide +kernel, by decide +kernel, by decide +kernel, by decide +kernel, fun _ _ _ _ _ _ _ _ _ _ _ _ => rfl, fun _ _ _ _ _ _ _ _ _ _ _ _ => rfl⟩

def bodyB (f : Str) : List Stmt → Bool
  | [.Expr (.Call (.Attribute (.Call (.Name s0 _) [] [] _) i0 q2) [.Constant (.str _) _ _] [] q4) _, .Assign [.Attribute (.Name s6 _) f7 _] (.Name f8 _) _] =>
    decide (s0 = "super") && (decide (i0 = "__init__") && (decide (s6 = "self") && (decide (f7 = f) && (decide (f8 = f) && (q2.endLine == q4.line)))))
  | _ => false
theorem bodyB_ok {f : Str} {l : List Stmt} (h : bodyB f l = true) : ∃ m k q0 q1 q2 q3 q4 q5 q6 q7 q8 q9, l = iBody m f k q0 q1 q2 q3 q4 q5 q6 q7 q8 q9 ∧ (q2.endLine == q4.line) = true := by
  unfold bodyB at h
  split at h
  · simp only [Bool.and_eq_true, decide_eq_true_eq] at h
    obtain ⟨rfl, rfl, rfl, rfl, rfl, e⟩ := h
    exact ⟨_, _, _, _, _, _, _, _, _, _, _, _, rfl, e⟩
  · cases h
def parB (f : Str) : Arguments → Bool
  | ⟨[], [⟨a1, none, _⟩, ⟨a2, none, _⟩], none, [], [], none, []⟩ => decide (a1 = "self") && decide (a2 = f)
  | _ => false
theorem parB_ok {f : Str} {p : Arguments} (h : parB f p = true) : ∃ p1 p2, p = iPar f p1 p2 := by
  unfold parB at h
  split at h
  · simp only [Bool.and_eq_true, decide_eq_true_eq] at h
    obtain ⟨rfl, rfl⟩ := h
    exact ⟨_, _, rfl⟩
  · cases h
def isNoneV : Value → Bool
  | .none => true
  | _ => false
theorem isNoneV_ok {v : Value} (h : isNoneV v = true) : v = .none := by
  unfold isNoneV at h
  split at h
  · rfl
  · cases h
def clsOne : List (Str × Addr) → Option Addr
  | [(n, c)] => if n = "__class__" then some c else none
  | _ => none
theorem clsOne_ok {l : List (Str × Addr)} {c : Addr} (h : clsOne l = some c) : l = ([("__class__", c)] : List (Str × Addr)) := by
  unfold clsOne at h
  split at h
  · split at h
    · rename_i e
      cases h
      rw [e]
    · cases h
  · cases h
def fdB (f : Str) (fd : FuncData) : Bool := decide (fd.name = "__init__") && (parB f fd.params && ((match fd.body with | .stmts l => bodyB f l | _ => false) && (decide (fd.scope = iScope f) && (decide (fd.globals = mainGlobals) && (decide (fd.builtins = builtinsNs) && (isNoneV fd.defaults && isNoneV fd.kwdefaults))))))
theorem fdB_ok {f : Str} {fd : FuncData} {cc : Addr} (h : fdB f fd = true) (hc : clsOne fd.closure = some cc) : ∃ p1 p2 m k q0 q1 q2 q3 q4 q5 q6 q7 q8 q9, (q2.endLine == q4.line) = true ∧ fd = PySem.W.ksFn "__init__" fd.qualname (iPar f p1 p2) (iBody m f k q0 q1 q2 q3 q4 q5 q6 q7 q8 q9) (iScope f) .none .none fd.doc fd.pyModule fd.annotations fd.code fd.closureTuple cc := by
  unfold fdB at h
  simp only [Bool.and_eq_true, decide_eq_true_eq] at h
  obtain ⟨h1, h2, h3, h4, h5, h6, h7, h8⟩ := h
  obtain ⟨p1, p2, e2⟩ := parB_ok h2
  obtain ⟨name, qual, params, body, scope, gl, clo, dV, kV, doc, pm, an, cd, ct, bi⟩ := fd
  dsimp only at *
  cases body with
  | stmts l =>
    obtain ⟨m, k, q0, q1, q2, q3, q4, q5, q6, q7, q8, q9, e3, e4⟩ := bodyB_ok h3
    refine ⟨p1, p2, m, k, q0, q1, q2, q3, q4, q5, q6, q7, q8, q9, e4, ?_⟩
    rw [h1, e2, e3, h4, h5, h6, isNoneV_ok h7, isNoneV_ok h8, clsOne_ok hc]
  | _ => cases h3
/-- C's mro: itself, own classes, then the built-in ones -/
def clsB (K : PySem.W.Frag) (C : Addr) : Bool := match K.lookup C with
  | some ⟨.type "type", _, .cls cd, sl⟩ => (match cd.mro with
    | .ref C' :: bm => decide (C' = C) && (PySem.HandSPX.refsVE bm && (cd.hasDict && (!cd.hasDel && (match sl.toList with | [_, _, _, _, some (.builtin "ValueError.__new__"), _] => true | _ => false))))
    | _ => false)
  | _ => false
theorem clsB_ok {K : PySem.W.Frag} {C : Addr} (h : clsB K C = true) : ∃ nm q N bs bm sn sub ab col dd k0 k1 k2 k3 k5, K.lookup C = some (excClassObj nm q C N bs bm true sn sub ab col dd k0 k1 k2 k3 k5 "ValueError.__new__") ∧ PySem.HandSPX.refsVE bm = true := by
  unfold clsB at h
  split at h
  · rename_i dd cd sl ho
    split at h
    · rename_i C' bm hm
      simp only [Bool.and_eq_true, decide_eq_true_eq, Bool.not_eq_true'] at h
      obtain ⟨rfl, h1, h2, h3, h4⟩ := h
      split at h4
      · rename_i k0 k1 k2 k3 k5 hs
        obtain ⟨nm, bs, mro, ns, qn, hd, sn, sub, ab, col, del⟩ := cd
        dsimp only at hm h2 h3
        subst hm h2 h3
        have hsl : sl = #[k0, k1, k2, k3, some (.builtin "ValueError.__new__"), k5] := by
          obtain ⟨l⟩ := sl
          simp only at hs
          rw [hs]
        subst hsl
        exact ⟨nm, qn, ns, bs, bm, sn, sub, ab, col, dd, k0, k1, k2, k3, k5, ho, h1⟩
      · cases h4
    · cases h
  · cases h
end DL

namespace DL
open PySem PySem.Spec PyProof.Rows L2
def v2B (P : Program) (vs : Array Value) : Bool := match vs[(2 : Nat)]? with
  | some (.str file _) => (P.main.file : Str) == file
  | _ => false
def codeB (P : Program) (K : PySem.W.Frag) : Value → Bool
  | .ref c => (match K.lookup c with
    | some ⟨_, _, .fields vs, _⟩ => v2B P vs
    | _ => false)
  | _ => false
def cellB (K : PySem.W.Frag) (C : Addr) : Option Addr → Bool
  | some cc => (match K.lookup cc with
    | some ⟨_, _, .cell (some (.ref D)), _⟩ => decide (D = C)
    | _ => false)
  | none => false
def fnB (P : Program) (K : PySem.W.Frag) (C : Addr) (f : Str) (fI : Addr) : Bool := match K.lookup fI with
  | some ⟨_, _, .func fd, _⟩ => fdB f fd && (PySem.W.codeIn K fd.code fd.qualname && (codeB P K fd.code && cellB K C (clsOne fd.closure)))
  | _ => false
def iniB (P : Program) (K : PySem.W.Frag) (x f : Str) : Bool :=
  clsB K (He.ga K x) && (He.eqO (PySem.W.findIn K (.ref (He.ga K x)) "__setattr__") (some (some (.builtin "object.__setattr__"))) && (decide (PySem.W.subIn K (.ref (He.ga K x)) (.type "BaseException") = some true) && (decide (PySem.W.typeIn K (.ref (He.ga K x)) = some (.type "type")) &&
  (PySem.W.keepIn K (.ref (He.ga K x)) && (He.eqO (PySem.W.ks_superIn K (He.ga K x) (He.ga K x) "__init__") (some (some (.builtin "ValueError.__init__"))) && (decide (PySem.W.subIn K (.ref (He.ga K x)) (.type "ValueError") = some true) &&
  (He.eqO (PySem.W.findIn K (.ref (He.ga K x)) f) (some none) && (match PySem.W.findIn K (.ref (He.ga K x)) "__init__" with
    | some (some (.ref fI)) => decide (PySem.W.typeIn K (.ref fI) = some (.type "function")) && fnB P K (He.ga K x) f fI
    | _ => false))))))))
structure IniF (P : Program) (K : PySem.W.Frag) (C : Addr) (f : Str) : Prop where
  ic : IniC K C f
  ex : ∃ fI oc od osl qual m k p1 p2 q0 q1 q2 q3 q4 q5 q6 q7 q8 q9 doc pm an cda ct cc ccl cdd vs ccs file tf cl cld csl, PySem.W.findIn K (.ref C) "__init__" = some (some (.ref fI)) ∧ PySem.W.typeIn K (.ref fI) = some (.type "function") ∧
    K.lookup fI = some ⟨oc, od, .func (PySem.W.ksFn "__init__" qual (iPar f p1 p2) (iBody m f k q0 q1 q2 q3 q4 q5 q6 q7 q8 q9) (iScope f) .none .none doc pm an (.ref cda) ct cc), osl⟩ ∧ PySem.W.codeIn K (.ref cda) qual = true ∧
    K.lookup cda = some ⟨ccl, cdd, .fields vs, ccs⟩ ∧ vs[2]? = some (.str file tf) ∧ ((P.main.file : Str) == file) = true ∧ K.lookup cc = some ⟨cl, cld, .cell (some (.ref C)), csl⟩ ∧ (q2.endLine == q4.line) = true
theorem codeB_ok {P : Program} {K : PySem.W.Frag} {v : Value} (h : codeB P K v = true) : ∃ cda ccl cdd vs ccs file tf, v = .ref cda ∧ K.lookup cda = some ⟨ccl, cdd, .fields vs, ccs⟩ ∧ vs[2]? = some (.str file tf) ∧ ((P.main.file : Str) == file) = true := by
  unfold codeB at h
  split at h
  · split at h
    · rename_i hk
      unfold v2B at h
      split at h
      · rename_i hv
        exact ⟨_, _, _, _, _, _, _, rfl, hk, hv, h⟩
      · cases h
    · cases h
  · cases h
theorem cellB_ok {K : PySem.W.Frag} {C : Addr} {o : Option Addr} (h : cellB K C o = true) : ∃ cc cl cld csl, o = some cc ∧ K.lookup cc = some ⟨cl, cld, .cell (some (.ref C)), csl⟩ := by
  unfold cellB at h
  split at h
  · split at h
    · rename_i hk
      have e := of_decide_eq_true h
      subst e
      exact ⟨_, _, _, _, rfl, hk⟩
    · cases h
  · cases h
theorem iniB_ok {P : Program} {K : PySem.W.Frag} {x f : Str} (h : iniB P K x f = true) : IniF P K (He.ga K x) f := by
  unfold iniB at h
  simp only [Bool.and_eq_true, decide_eq_true_eq] at h
  obtain ⟨h1, h2, h3, h4, h5, h6, h8, h9, h10⟩ := h
  refine ⟨⟨⟨clsB_ok h1, He.eqO_ok h2, h3, h4, h5⟩, He.eqO_ok h6, h8, He.eqO_ok h9⟩, ?_⟩
  split at h10
  · rename_i fI hf
    simp only [Bool.and_eq_true, decide_eq_true_eq] at h10
    obtain ⟨t1, t2⟩ := h10
    unfold fnB at t2
    split at t2
    · rename_i oc od fd osl hk
      simp only [Bool.and_eq_true] at t2
      obtain ⟨g1, g2, g3, g4⟩ := t2
      obtain ⟨cda, ccl, cdd, vs, ccs, file, tf, e1, e2, e3, e4⟩ := codeB_ok g3
      obtain ⟨cc, cl, cld, csl, e5, e6⟩ := cellB_ok g4
      obtain ⟨p1, p2, m, k, q0, q1, q2, q3, q4, q5, q6, q7, q8, q9, e7, e8⟩ := fdB_ok g1 e5
      rw [e1] at e8 g2
      rw [e8] at hk
      exact ⟨fI, oc, od, osl, fd.qualname, m, k, p1, p2, q0, q1, q2, q3, q4, q5, q6, q7, q8, q9, _, _, _, cda, _, cc, ccl, cdd, vs, ccs, file, tf, cl, cld, csl, hf, t1, hk, g2, e2, e3, e4, e6, e7⟩
    · cases t2
  · cases h10
end DL

namespace DL
open PySem PySem.Spec PyProof.Rows L2
/-! ### C(e), C(f = e), ValueError(e) as values -/
section
variable {X : Cx} {pins : List (Addr × Obj)} {σ : L2.St} {H : Hp} {s : Shared}
theorem exV_ok {P : Program} {w : World} {H : Hp} {h : Heap} {a : Addr} {cls : Value} {dd : Option Addr} {oe : Obj} {vs : Array Value} (e : h.get? a = some oe) (z : Zc cls dd oe) (d : oe.data = .fields vs) : ObjOk P w H h a (ExV cls dd a) :=
  ⟨⟨oe, vs, e, z, d⟩, ⟨oe, e⟩, fun _ _ ⟨o, v, q, r⟩ k => ⟨o, v, k o q, r⟩⟩
/-- two new objects, laid and tracked at once -/
theorem Inv.laid2 {h' : Heap} {a b : Addr} {oa ob : HO} {t' : Nat} (I : Inv X pins σ H s) (k : ∀ c u, s.heap.get? c = some u → h'.get? c = some u) (pa : s.heap.get? a = none) (pb : s.heap.get? b = none) (na : H a = none) (nb : H b = none) (ne : a ≠ b)
    (oka : ObjOk X.prog X.w (upd (upd H b ob) a oa) h' a oa) (okb : ObjOk X.prog X.w (upd (upd H b ob) a oa) h' b ob) : Inv X pins σ (upd (upd H b ob) a oa) { s with heap := h', toks := t' } := by
  have ua : ∀ {c : Addr} {u : Obj}, s.heap.get? c = some u → c ≠ a := fun {c u} q z => by rw [z, pa] at q; cases q
  have ub : ∀ {c : Addr} {u : Obj}, s.heap.get? c = some u → c ≠ b := fun {c u} q z => by rw [z, pb] at q; cases q
  have lift : ∀ {c : Addr} {o : HO}, H c = some o → upd (upd H b ob) a oa c = some o := fun {c o} q => by
    rw [upd_ne (ne_of_none q na), upd_ne (ne_of_none q nb)]
    exact q
  refine I.un ⟨fun c u q _ _ _ => k c u q, fun c u q _ _ _ => ⟨u.slots, k c u q⟩, fun c u q n _ => ?_, fun c u q _ => ⟨u, k c u q⟩, fun c xs q => lift q, fun c o u q => lift q, fun c ps q => ⟨#[], ?_⟩⟩ fun c o q => ?_
  · rw [upd_ne (ua q), upd_ne (ub q)]
    exact n
  · rw [lift q]
    simp
  · by_cases ha : c = a
    · subst ha
      rw [upd_same] at q
      cases q
      exact oka
    · rw [upd_ne ha] at q
      by_cases hb : c = b
      · subst hb
        rw [upd_same] at q
        cases q
        exact okb
      · rw [upd_ne hb] at q
        exact (I.hok c o q).stay (fun y v _ z => k y v z) (fun y z => lift z) fun y xs z => lift z
/-- C(e): a new exception of the class at C without a dict -/
def rEx0 (cls : Value) : List V → Hp → VK → Prop := fun xs H Q => xs.length ≤ 1000 ∧ ∀ a, H a = none → Q (.ref a) (upd H a (ExV cls none a))
def rEx1 (C : Addr) (f : Str) : List V → Hp → VK → Prop := fun xs H Q => ∃ v, xs = [v] ∧ ∀ a dd, H a = none → H dd = none → a ≠ dd → Q (.ref a) (upd (upd H dd (.xd [(f, v)])) a (ExV (.ref C) (some dd) a))
variable {C : Addr} {x f : Str} {e : Expr} {es : List Expr} {t : TA} {p pos : Pos} {kws : List Keyword}
theorem pe_exv0 (q : PySem.W.excIn X.K C He.veBase "ValueError.__new__" = true) (gC : X.mg x = some (.ref C)) (kC : PySem.W.keepIn X.K (.ref C) = true) (hg : Gl X x)
    (ha : PA X (e :: es) t) (hdb : (x == ("__debug__" : Str)) = false := by decide) (he : starEach (e :: es) X.env = (false, eval e X.env) :: starEach es X.env := by rfl) (hpl : (backTo pos (starEach es X.env)).any (·.1) = false := by rfl) :
    PE X (.Call (.Name x p) (e :: es) [] pos) (fun σ H Q => t σ H fun xs H1 => rEx0 (.ref C) xs H1 Q) := by
  refine ⟨fun pins s σ H Q I h => wpAny_Call_Name_kw (ld_glob I hg gC (PySem.W.callWith_K (h₀ := X.base) I.ok.mod.kin kC (thn (ha.run pos pins s σ H _ I h) fun us s1 ⟨vs, H1, I1, r1, hl, q1⟩ => ⟨I1.kIn, ?_⟩) he hpl) hdb)⟩
  show wpAny _ _ (call (.ref C) us) _ _ _
  obtain ⟨bm, N, nm, qn, bs, hdct, sn, sub, ab, col, dd, k0, k1, k2, k3, k5, mN, hC, hN, hni, T⟩ := exc_obj I1.kIn q
  refine wpAny_call_exc_subT PySem.F.excBase_ValueError T hC hN hni (fun h' a hm => ?_) (by rw [← r1.length, sizeLine_eq]; omega)
  have hn : H1 a = none := I1.hok.gone hm.new
  obtain ⟨t, ht, _, _⟩ := hm.there
  exact ⟨.ref a, upd H1 a (ExV (.ref C) none a), I1.laidN hm.keeps hm.new hn (exV_ok ht ⟨rfl, rfl⟩ rfl), rfl, q1 a hn⟩
/-- ValueError(e) -/
theorem pe_exvB (hg : Gl X "ValueError") (hm : X.mg "ValueError" = none) (ha : PA X (e :: es) t) (he : starEach (e :: es) X.env = (false, eval e X.env) :: starEach es X.env := by rfl) (hpl : (backTo pos (starEach es X.env)).any (·.1) = false := by rfl) :
    PE X (.Call (.Name "ValueError" p) (e :: es) [] pos) (fun σ H Q => t σ H fun xs H1 => rEx0 (.type "ValueError") xs H1 Q) := by
  refine ⟨fun pins s σ H Q I h => wpAny_Call_Name_kw (ld_blt I hg hm boot_ValueError ?_ (by decide) (by decide))⟩
  refine PyProof.Rows.callWith_type1 (thn (ha.run pos pins s σ H _ I h) fun us s1 ⟨vs, H1, I1, r1, hl, q1⟩ => ?_) he hpl
  obtain ⟨hp1, g1, d1, tk1, os1⟩ := s1
  refine wpAny_call_exc exb_ValueError.call (fun h' a mk => ?_) (by rw [← r1.length, sizeLine_eq]; omega)
  have hn : H1 a = none := I1.hok.gone mk.new
  obtain ⟨t, ht, _, _⟩ := mk.there
  exact ⟨.ref a, upd H1 a (ExV (.type "ValueError") none a), I1.laidN mk.keeps mk.new hn (exV_ok ht ⟨rfl, rfl⟩ rfl), rfl, q1 a hn⟩
/-- a class whose __init__ keeps its argument: the call -/
theorem ini_core {rest : List Value} {kw : List (Str × Value)} {u : Value} {v : V} {Q : VK} (F : IniF X.prog X.K C f) (fo : FOk f) (nt : NoThird X.base) (hsup : X.mg "super" = none) (htop : (X.prog.main.scope.names.lookup ("super" : Str)).isSome = false) (hr : Room 1 X.A)
    (hkw : (rest = [u] ∧ kw = []) ∨ (rest = [] ∧ kw = [(f, u)])) (I : Inv X pins σ H s) (r : RelV v u) (hq : ∀ a dd, H a = none → H dd = none → a ≠ dd → Q (.ref a) (upd (upd H dd (.xd [(f, v)])) a (ExV (.ref C) (some dd) a))) :
    wpAny (model X.prog X.w) X.A (call (.ref C) rest kw) (EP X pins σ Q) X.xe s := by
  obtain ⟨fI, oc, od, osl, qual, m, k, p1, p2, q0, q1, q2, q3, q4, q5, q6, q7, q8, q9, doc, pm, an, cda, ct, cc, ccl, cdd, vs, ccs, file, tf, cl, cld, csl, e1, e2, e3, e4, e5, e6, e7, e8, e9⟩ := F.ex
  obtain ⟨nm, q, N, bs, bm, sn, sub, ab, col, dd, k0, k1, k2, k3, k5, hC, hbm⟩ := F.ic.T.cls
  have hbk := I.bk
  have hks := I.kIn
  obtain ⟨hp, g, d, tk, os⟩ := s
  have hz : rest.length ≤ sizeLine := by
    rcases hkw with ⟨rfl, _⟩ | ⟨rfl, _⟩
    · show 1 ≤ sizeLine; rw [sizeLine_eq]; omega
    · exact Nat.zero_le _
  have kk : ∀ b o, hp.get? b = some o → ((hp.push (PySem.W.kdv_tup rest)).push (PySem.HandSPX.excO C hp.objs.size)).get? b = some o := fun b o e => Heap.get?_push_of_some _ (Heap.get?_push_of_some _ e)
  have he : ((hp.push (PySem.W.kdv_tup rest)).push (PySem.HandSPX.excO C hp.objs.size)).get? (hp.objs.size + 1) = some (PySem.HandSPX.excO C hp.objs.size) := by heap_get
  have sz : ((hp.push (PySem.W.kdv_tup rest)).push (PySem.HandSPX.excO C hp.objs.size)).objs.size = hp.objs.size + 2 := by rw [Heap.size_push, Heap.size_push]
  have new : ∀ n, hp.get? (hp.objs.size + n) = none := fun n => Heap.get?_none_of_le (Nat.le_add_right _ _)
  have hne : X.base.get? (hp.objs.size + 1) = none := by
    cases z : X.base.get? (hp.objs.size + 1) with
    | none => rfl
    | some o =>
      have y : hp.get? (hp.objs.size + 1) = some o := hbk _ _ z
      rw [new 1] at y
      cases y
  refine wpAny_call (call_kw PySem.F.excBase_ValueError (fun Y => PySem.HandSPX.refsVE_contains Y bm hbm) (hks _ _ hC) (PySem.W.looks_findIn hks e1) (fun self => PySem.W.bind_fn hks self e2) hz
    (ini_run (base := X.base) I.mod (fun b o z => kk b o (hbk b o z)) nt (hr.make C rest kw).depth F.ic e3 e4 e5 e6 e7 e8 htop hsup fo.h2 fo.hd fo.kk fo.kc fo.kf (v := u) ?_ he hne e9 rfl fun h' dx tk' t1 k' ld hx hns => ?_))
  · rcases hkw with ⟨rfl, rfl⟩ | ⟨rfl, rfl⟩
    · exact .of_eq (fo.bd ..)
    · exact .of_eq (fo.bk ..)
  rw [sz] at ld
  have pa := new 1
  have pb : hp.get? dx = none := Heap.get?_none_of_le (by omega)
  have na : H (hp.objs.size + 1) = none := I.hok.gone pa
  have nb : H dx = none := I.hok.gone pb
  have ne : hp.objs.size + 1 ≠ dx := by omega
  have J := Inv.laid2 (t' := tk') (h' := h') I (fun c z hc => k' c z (fun y => by rw [y] at hc; rw [pa] at hc; cases hc) (kk c z hc)) pa pb na nb ne (exV_ok (cls := .ref C) (dd := some dx) hx ⟨rfl, rfl⟩ rfl)
    (show ObjOk X.prog X.w _ h' dx (.xd [(f, v)]) from ⟨_, hns, relO_put (fs := []) r fun g => True.intro⟩)
  exact ⟨rfl, .ref (hp.objs.size + 1), _, J, rfl, hq _ _ na nb ne⟩
theorem pe_exv1 (F : IniF X.prog X.K C f) (fo : FOk f) (nt : NoThird X.base) (hsup : X.mg "super" = none) (htop : (X.prog.main.scope.names.lookup ("super" : Str)).isSome = false) (hr : Room 1 X.A) (gC : X.mg x = some (.ref C)) (hg : Gl X x)
    (ha : PA X (e :: es) t) (hdb : (x == ("__debug__" : Str)) = false := by decide) (he : starEach (e :: es) X.env = (false, eval e X.env) :: starEach es X.env := by rfl) (hpl : (backTo pos (starEach es X.env)).any (·.1) = false := by rfl) :
    PE X (.Call (.Name x p) (e :: es) [] pos) (fun σ H Q => t σ H fun xs H1 => rEx1 C f xs H1 Q) := by
  refine ⟨fun pins s σ H Q I h => wpAny_Call_Name_kw (ld_glob I hg gC (PySem.W.callWith_K (h₀ := X.base) I.ok.mod.kin F.ic.T.kC (thn (ha.run pos pins s σ H _ I h) fun us s1 ⟨vs, H1, I1, r1, v, ev, q1⟩ => ⟨I1.kIn, ?_⟩) he hpl) hdb)⟩
  subst ev
  cases r1 with
  | cons ru rn =>
    cases rn
    exact ini_core F fo nt hsup htop hr (.inl ⟨rfl, rfl⟩) I1 ru q1
theorem pe_exvK (F : IniF X.prog X.K C f) (fo : FOk f) (nt : NoThird X.base) (hsup : X.mg "super" = none) (htop : (X.prog.main.scope.names.lookup ("super" : Str)).isSome = false) (hr : Room 1 X.A) (gC : X.mg x = some (.ref C)) (hg : Gl X x)
    (hk : PK X kws t) (hall : (backToKw pos (keywordEach kws X.env)).all (·.1.isSome) = true := by rfl) (hks : (backToKw pos (keywordEach kws X.env)).filterMap (·.1) = [f] := by rfl) (hdb : (x == ("__debug__" : Str)) = false := by decide)
    (hpl : ((backTo pos (starEach [] X.env)).any (·.1) || (backToKw pos (keywordEach kws X.env)).any (·.1.isNone)) = false := by rfl) :
    PE X (.Call (.Name x p) [] kws pos) (fun σ H Q => t σ H fun xs H1 => rEx1 C f xs H1 Q) := by
  refine ⟨fun pins s σ H Q I h => wpAny_Call_Name_kw (ld_glob I hg gC (PySem.W.callWith_KW0 (h₀ := X.base) I.ok.mod.kin F.ic.T.kC hall (thn (hk.run pos pins s σ H _ I h) fun us s1 ⟨vs, H1, I1, r1, v, ev, q1⟩ => ⟨I1.kIn, ?_⟩) hpl) hdb)⟩
  rw [hks]
  subst ev
  cases r1 with
  | cons ru rn =>
    cases rn
    exact ini_core F fo nt hsup htop hr (.inr ⟨rfl, rfl⟩) I1 ru q1
end
end DL

namespace DL
open PySem PySem.Spec PyProof.Rows L2 LamX
/-! ### the law's def, called where no repr is under way -/
/-- as FnOk, but only where nothing guarded is under way -/
def FnG (P : Program) (w : World) (K : PySem.W.Frag) (mg : Str → Option Value) (base : Heap) (CX : CXT) (k : Nat) (f : Addr) (fd : FuncData) (ps : List Str) (sp : Sp) : Prop :=
  ∀ (A : Around) (outer : List Env) (s : Shared) (H : Hp) (args : Args) (us : List Value) (vs : List V) (Q : VK) (E : XK), A.guards = some [] → Room k A → Env0 P w K mg base A outer s H → BindsTo s fd args (ps.zip us) → Vals vs us → sp vs H Q E →
    codeAny (model P w) A (.call (.ref f) args) (CR CX outer P w H s Q E) s
theorem fn_ofG {CX : CXT} {P : Program} {w : World} {K : PySem.W.Frag} {mg : Str → Option Value} {base : Heap} {k : Nat} {f : Addr} {name qual : Str} {params : Arguments} {body : List Stmt} {scope : Scope} {dV kV doc pm cdv ct oc : Value} {an od : Option Addr}
    {osl : Array (Option Value)} {N ps : List Str} {sp : Sp} (lk : K.lookup f = some ⟨oc, od, .func (PySem.W.fnOf name qual params body scope dV kV doc pm an cdv ct), osl⟩) (hcd : PySem.W.codeIn K cdv qual = true) (S : FnScope N ps scope) (len : ∀ vs H Q E, sp vs H Q E → vs.length = ps.length)
    (hbody : ∀ (A : Around) (outer : List Env) (s : Shared) (H : Hp) (vs : List V) (Q : VK) (E : XK), (A.deeper (envOfC qual scope s.heap.objs.size f cdv)).guards = some [] → Room k (A.deeper (envOfC qual scope s.heap.objs.size f cdv)) → sp vs H Q E →
      ∃ t, PSs (cxOf CX P w K mg base N qual scope f cdv A outer s H E) body t ∧ t { nx := fun _ H' => Q .non H', rt := Q } (start N vs) H) :
    FnG P w K mg base CX (k + 1) f (PySem.W.fnOf name qual params body scope dV kV doc pm an cdv ct) ps sp := by
  intro A outer s H args us vs Q E hg hr e0 hb r hsp
  have in0 : ∀ b o, base.get? b = some o → s.heap.get? b = some o := fun b o e => (e0.bs b o e).1
  have kin : K.In s.heap := e0.mod.kin.keeps in0
  refine codeAny_call_function hr.depth (kin _ _ lk) rfl S.co S.gen rfl (PySem.W.codeRec_of kin hcd) (hb _ _ _ _ (wpAny_newFunctionEnv_cells S.kind (fun ⟨n, v⟩ hy => ?_) fun env he s1 x => ?_))
  · exact (S.par n (List.of_mem_zip hy).1).elim .inl fun q => .inr ⟨q, PySem.W.cellsFrom_some _ _ _ (.inl q)⟩
  · subst he
    obtain ⟨t, ht, hq⟩ := hbody A outer s H vs Q E hg (hr.deeper _) hsp
    have J : L2.Inv (cxOf CX P w K mg base N qual scope f cdv A outer s H E) [] (start N vs) H s1 := inv_start S hr.hd e0 (len _ _ _ _ hsp) r x
    refine ⟨(e0.mod.nolimit.keeps in0).keeps x.toInCall.keep, codeAny_func (wpAny_mono (ht.run [] s1 (start N vs) H _ J hq) (fun fl s' hs => ?_) fun _ _ z => z)⟩
    have done : ∀ {σ' : L2.St} {H' : Hp} {v : V} {u : Value}, L2.Inv (cxOf CX P w K mg base N qual scope f cdv A outer s H E) [] σ' H' s' → RelV v u → Q v H' → CE outer P w H s Q u s' := fun {σ' H' v u} J' rv q => ⟨v, H', J'.os, J'.bare, J'.base, J'.hok, rv, q⟩
    match fl, hs with
    | .ret u, ⟨v, σ', H', J', rv, q⟩ => exact done J' rv q
    | .next, ⟨σ', H', J', q⟩ => exact done (v := V.non) (u := Value.none) J' rfl q
    | .brk, ⟨_, _, _, q⟩ => exact False.elim q
    | .cont, ⟨_, _, _, q⟩ => exact False.elim q
/-- the law's call, no tables of code objects -/
theorem law_callG {P : Program} {w : World} {K : PySem.W.Frag} {mg mb : Str → Option Value} {CX : CXT} {k : Nat} {fa a : Addr} {fd : FuncData} {x : Str} {sp : Sp} {s : Shared} {vs : List Value} {ns : List Int}
    (kin : K.In s.heap) (hns : s.heap.Ns mainGlobals mg) (hb : s.heap.Ns builtinsNs mb) (hbb : ∀ x : Str, x ≠ "__name__" → mb x = bootBuiltins x) (hlim : s.heap.NoLimit) (hgn : s.gens = #[])
    (ha : s.heap.get? a = some { cls := .type "list", data := .seq vs.toArray }) (hi : IntsAre vs ns) (hl : ns.length ≤ sizeLine) (hr : Room k callerA)
    (nt : NoThird s.heap) (F : ∀ base : Heap, K.In base → base.Ns mainGlobals mg → NoThird base → FnG P w K mg base CX k fa fd [x] sp) (hbind : ∀ (s : Shared) (u : Value), BindsTo s fd ⟨[u], []⟩ [(x, u)])
    (hsp : ∀ H : Hp, SqL K H a (ns.map V.int) → sp [.ref a] H (fun v _ => v = .bl true) fun _ _ _ => False) (hCX : ∀ H e s', CX [] H s (fun _ _ _ => False) e s' → False) :
    codeAny (model P w) callerA (.call (.ref fa) ⟨[.ref a], []⟩) (fun r s' => r = .ok (.ret (.bool true)) ∧ OldK s.heap s'.heap ∧ s'.os = s.os ∧ AllBare s'.gens) s := by
  have rv := vals_ints hi
  have lenV := hi.length
  -- the abstract heap tracks the script at most, and never changes it
  suffices main : ∀ H : Hp, (∀ b u, H b = some u → b = a ∧ ∃ o xs, u = .frz o (.lst xs)) → (∀ o, K.lookup a = some o → H a = none) → SqL K H a (ns.map V.int) → HOk P w H s.heap →
      codeAny (model P w) callerA (.call (.ref fa) ⟨[.ref a], []⟩) (fun r s' => r = .ok (.ret (.bool true)) ∧ OldK s.heap s'.heap ∧ s'.os = s.os ∧ AllBare s'.gens) s by
    cases hk : K.lookup a with
    | some o =>
      have e := kin a o hk
      rw [ha] at e
      cases e
      exact main (fun _ => none) (fun b u z => nomatch z) (fun _ _ => rfl) (.inr ⟨_, vs.toArray, _, hk, rfl, rfl, rfl, by rw [List.size_toArray, lenV]; exact hl, by simpa using rv⟩) (fun b u z => nomatch z)
    | none =>
      refine main (fun b => if b = a then some (.frz { cls := .type "list", data := .seq vs.toArray } (.lst (ns.map V.int))) else none) (fun b u z => ?_) (fun o z => by rw [hk] at z; cases z) (.inl (.inr ⟨{ cls := .type "list", data := .seq vs.toArray }, if_pos rfl⟩)) fun b u z => ?_
      · by_cases q : b = a
        · exact ⟨q, _, _, (Option.some.inj ((if_pos q).symm.trans z)).symm⟩
        · cases (if_neg q).symm.trans z
      · by_cases q : b = a
        · cases (if_pos q).symm.trans z
          subst q
          exact ⟨ha, by rw [List.length_map]; exact hl, vs, _, rv, ha⟩
        · cases (if_neg q).symm.trans z
  intro H only notK hS hok
  have untracked : ∀ {b : Addr} {o : Obj}, s.heap.get? b = some o → (∀ vs n, o.data ≠ .seq vs n) → H b = none := fun {b o} e h1 => by
    cases q : H b with
    | none => rfl
    | some u =>
      obtain ⟨rfl, _⟩ := only b u q
      rw [ha] at e
      cases e
      exact (h1 _ _ rfl).elim
  have ns1 : ∀ {b : Addr} {m : Str → Option Value}, s.heap.Ns b m → (hidT s.heap H).Ns b m := fun {b m} ⟨o, es, ep, e, dd, r⟩ => ⟨o, es, ep, hidT_get e (untracked e fun vs n z => by rw [dd] at z; cases z), dd, r⟩
  have kin0 : K.In (hidT s.heap H) := fun b o e => hidT_get (kin b o e) (by
    cases q : H b with
    | none => rfl
    | some u =>
      obtain ⟨rfl, _⟩ := only b u q
      rw [notK o e] at q
      cases q)
  have hM : L2.Mod K mg (hidT s.heap H) := ⟨kin0, ns1 hns, ⟨mb, ns1 hb, hbb⟩, let ⟨mc, h1, h2⟩ := hlim; ⟨mc, ns1 h1, h2⟩⟩
  have e0 : Env0 P w K mg (hidT s.heap H) callerA [] s H := ⟨rfl, hM, fun b o e => of_hidT e, Nat.le_of_eq (hidT_size _ _), trivial, fun b hb => (nomatch (show b ∈ ([] : List Addr) from hb)), hok, .of_eq hgn⟩
  have nt0 : NoThird (hidT s.heap H) := by
    obtain ⟨o, h1, h2⟩ := nt
    exact ⟨o, hidT_get h1 (untracked h1 (NoThird.noSeq h2)), h2⟩
  refine codeAny_mono (F _ kin0 (ns1 hns) nt0 callerA [] s H ⟨[.ref a], []⟩ [.ref a] [.ref a] _ _ rfl hr e0 (hbind s (.ref a)) (.cons rfl .nil) (hsp H hS)) fun r s' h => ?_
  match r, h with
  | .error e, h => exact (hCX H e s' h).elim
  | .ok .next, h => exact h.elim
  | .ok .brk, h => exact h.elim
  | .ok .cont, h => exact h.elim
  | .ok (.ret u), ⟨v, H', os, bare, un, hok', r', q⟩ =>
    have q' : v = .bl true := q
    subst q'
    obtain rfl : u = Value.bool true := r'
    have old : ∀ b o, s.heap.get? b = some o → s'.heap.get? b = some o := fun b o e => by
      cases q : H b with
      | none => exact un.keep b o e q (fun z => nomatch (show b ∈ ([] : List Addr) from z)) (by simp)
      | some u =>
        obtain ⟨rfl, ob, xs, rfl⟩ := only b u q
        have y := (hok b _ q).1
        rw [e] at y
        cases y
        exact (hok' b _ (un.frzs b _ _ q)).1
    exact ⟨rfl, ⟨fun b o e => .inl (old b o e), fun b o e => ⟨o, old b o e⟩⟩, os, bare⟩
theorem walk_ofG {l : PySem.W.OpenLaw} {n k : Nat} {q : Program} {loose : List Str} {XP : (Str → Option Value) → Heap → Prop} {YP : World → Heap → Prop} {d : DefRec} {CX : World → CXT} {x : Str}
    (hn : l.most = some n) (hn2 : n ≤ sizeLine) (hdf : d.params.defaults = []) (hr : Room k callerA)
    (F : ∀ (w : World) (mg : Str → Option Value) (fa : Addr) (h : Heap), YP w h → h.Ns mainGlobals mg → mg d.name = some (.ref fa) → ∃ K : PySem.W.Frag, K.In h ∧ NoThird h ∧ ∃ (fd : FuncData) (sp : Sp), (∀ (s : Shared) (u : Value), BindsTo s fd ⟨[u], []⟩ [(x, u)]) ∧
      (∀ (H : Hp) (a : Addr) (ns : List Int), ns.length ≤ n → SqL K H a (ns.map V.int) → sp [.ref a] H (fun v _ => v = .bl true) fun _ _ _ => False) ∧
      ∀ base : Heap, K.In base → base.Ns mainGlobals mg → NoThird base → FnG l.prog w K mg base (CX w) k fa fd [x] sp)
    (hCX : ∀ (w : World) (H : Hp) (s : Shared) (e : Value) (s' : Shared), CX w [] H s (fun _ _ _ => False) e s' → False) :
    PySem.W.WalkO q loose XP YP l.row.toRowW d [] (fun f vs => PySem.call f vs) := by
  refine Att.attach_callB hn hdf fun w s₀ s₁ mg mb fa o pm cd doc a vs ns G Y ho hd hcd hmg hobj hints hlen hbits hg => ?_
  obtain ⟨K, kin, nt, fd, sp, hb, hsp, hF⟩ := F w mg fa _ Y G.T.g hmg
  exact law_callG kin G.T.g G.T.b G.T.builtins G.T.nolimit hg hobj hints (Nat.le_trans hlen hn2) hr nt hF hb (fun H hS => hsp H a ns hlen hS) fun H e s' => hCX w H s₁ e s'
/-- a Hook that looks at the statics, too -/
def hookN (n : Nat) (fa : List He.Fa) (fn : List He.DefD) (tf : List He.Defn) (ex : PySem.W.Frag → Bool) : PySem.W.Hook where
  α := He.AlX × Bool
  obs := fun s => (He.obsX n fa fn [] tf ex s.heap.get?, thB s.heap.get?)
  val := fun w => (He.valX fn [] w, true)
  says := fun w h => (∃ K : PySem.W.Frag, K.In h ∧ He.SaysX fa fn [] tf ex w h K) ∧ NoThird h
  of := fun w s e => ⟨(He.hookX n fa fn [] tf ex).of w s (congrArg Prod.fst e), thB_ok (congrArg Prod.snd e)⟩
  keeps := fun w h h' z k => ⟨(He.hookX n fa fn [] tf ex).keeps w h h' z.1 k, z.2.keeps k⟩
theorem obsN_eq {n : Nat} {fa : List He.Fa} {fn : List He.DefD} {tf : List He.Defn} {ex : PySem.W.Frag → Bool} {g : Addr → Option Obj} {s : Shared} (h : ∀ a, g a = s.heap.get? a) : ((He.obsX n fa fn [] tf ex g, thB g) : He.AlX × Bool) = (hookN n fa fn tf ex).obs s := by
  have e : g = s.heap.get? := funext h
  rw [e]
  rfl
end DL

namespace DL
open PySem PySem.Spec PyProof.Rows L2 LamX
section
variable {X : Cx} {W : Wt} {P : PP} {K : PySem.W.Frag} {M : Fm} {al : Nat → Option Addr} {σ : L2.St} {H : Hp} {δ : Sls} {ω : Om}
variable {a b e c : Expr} {es : List Expr} {fa fb fc : EvE} {fs : EvA} {pos : Pos} {x f : Str} {p : Pos}
/-! ### exceptions as values -/
def gEx0 (c : Str) : List D → Option D := fun ds => if ds.length ≤ 1000 then some (.exc c []) else none
def gEx1 (c f : Str) : List D → Option D
  | [d] => some (.exc c [(f, d)])
  | _ => none
theorem o_ex0 {c : Str} : OpN K (rEx0 (.ref (He.ga K c))) (gEx0 c) := ⟨fun sa N H xs as d Q r e nt k => by
  unfold gEx0 at e
  split at e
  · rename_i hl
    cases e
    exact ⟨by rw [r.len]; exact hl, fun a ha => k _ _ (same_upd ha) (.exc0 upd_same)⟩
  · cases e⟩
theorem o_ex1 {c f : Str} : OpN K (rEx1 (He.ga K c) f) (gEx1 c f) := ⟨fun sa N H xs as d Q r e nt k => by
  unfold gEx1 at e
  split at e
  · rename_i d0
    cases e
    obtain ⟨v, rfl, r1⟩ := r.one
    refine ⟨v, rfl, fun a dd ha hd ne => ?_⟩
    have s1 := same_upd (o := .xd [(f, v)]) hd
    have na : upd H dd (.xd [(f, v)]) a = none := by rw [upd_ne ne]; exact ha
    have s2 := same_upd (o := ExV (.ref (He.ga K c)) (some dd) a) na
    exact k _ _ (fun b o z => s2 b o (s1 b o z)) (.exc1 upd_same (by rw [upd_ne (Ne.symm ne)]; exact upd_same) (same_rep s2 (same_rep s1 r1)))
  · cases e⟩
theorem pd_ex0 (q : PySem.W.excIn X.K (He.ga X.K x) He.veBase "ValueError.__new__" = true) (gC : X.mg x = some (.ref (He.ga X.K x))) (kC : PySem.W.keepIn X.K (.ref (He.ga X.K x)) = true) (ha : PAd X W (e :: es) fs) (hg : Gl X x := by rfl) (hdb : (x == ("__debug__" : Str)) = false := by decide)
    (he : starEach (e :: es) X.env = (false, eval e X.env) :: starEach es X.env := by rfl) (hpl : (backTo pos (starEach es X.env)).any (·.1) = false := by rfl) : PEd X W (.Call (.Name x p) (e :: es) [] pos) (eOpN (gEx0 x) fs) := by
  obtain ⟨t, p1, q1⟩ := ha.ex
  exact ⟨_, pe_exv0 q gC kC hg p1 hdb he hpl, tN_ok o_ex0 q1⟩
theorem pd_ex1 (F : IniF X.prog X.K (He.ga X.K x) f) (fo : FOk f) (nt : NoThird X.base) (hsup : X.mg "super" = none) (htop : (X.prog.main.scope.names.lookup ("super" : Str)).isSome = false) (hr : Room 1 X.A) (gC : X.mg x = some (.ref (He.ga X.K x)))
    (ha : PAd X W (e :: es) fs) (hg : Gl X x := by rfl) (hdb : (x == ("__debug__" : Str)) = false := by decide) (he : starEach (e :: es) X.env = (false, eval e X.env) :: starEach es X.env := by rfl) (hpl : (backTo pos (starEach es X.env)).any (·.1) = false := by rfl) :
    PEd X W (.Call (.Name x p) (e :: es) [] pos) (eOpN (gEx1 x f) fs) := by
  obtain ⟨t, p1, q1⟩ := ha.ex
  exact ⟨_, pe_exv1 F fo nt hsup htop hr gC hg p1 hdb he hpl, tN_ok o_ex1 q1⟩
theorem pd_exK {kws : List Keyword} (F : IniF X.prog X.K (He.ga X.K x) f) (fo : FOk f) (nt : NoThird X.base) (hsup : X.mg "super" = none) (htop : (X.prog.main.scope.names.lookup ("super" : Str)).isSome = false) (hr : Room 1 X.A) (gC : X.mg x = some (.ref (He.ga X.K x)))
    (hkw : PKd X W kws fs) (hg : Gl X x := by rfl) (hall : (backToKw pos (keywordEach kws X.env)).all (·.1.isSome) = true := by rfl) (hks : (backToKw pos (keywordEach kws X.env)).filterMap (·.1) = [f] := by rfl) (hdb : (x == ("__debug__" : Str)) = false := by decide)
    (hpl : ((backTo pos (starEach [] X.env)).any (·.1) || (backToKw pos (keywordEach kws X.env)).any (·.1.isNone)) = false := by rfl) : PEd X W (.Call (.Name x p) [] kws pos) (eOpN (gEx1 x f) fs) := by
  obtain ⟨t, p1, q1⟩ := hkw.ex
  exact ⟨_, pe_exvK F fo nt hsup htop hr gC hg p1 hall hks hdb hpl, tN_ok o_ex1 q1⟩
/-! ### their attribute -/
def tXv (K : PySem.W.Frag) (n : Str) (te : TE) : TE := fun σ H Q => te σ H fun x H1 => ∃ (a C dd : Addr) (fs : List (Str × V)) (v : V), x = .ref a ∧ H1 a = some (ExV (.ref C) (some dd) a) ∧ XfC K C ∧ PySem.W.findIn K (.ref C) n = some none ∧ H1 dd = some (.xd fs) ∧ fs.lookup n = some v ∧ Q v H1
theorem pe_xv {e : Expr} {te : TE} {n : Str} (he : PE X e te) (hb : attributeBase e n X.env (eval e X.env) = eval e X.env) : PE X (.Attribute e n pos) (tXv X.K n te) := by
  refine ⟨fun pins s σ H Q I h => attr_of hb (thn (he.run pins s σ H _ I h) fun u s1 hh => ?_)⟩
  obtain ⟨x, H1, I1, rx, a, C, dd, fs, v, ex, ha, T, hno, ea, l, q⟩ := hh
  subst ex
  obtain rfl : u = Value.ref a := rx
  obtain ⟨oe, vs, h1, h2, h3⟩ := (show ∃ (oe : Obj) (vs : Array Value), s1.heap.get? a = some oe ∧ Zc (.ref C) (some dd) oe ∧ oe.data = .fields vs from (show ObjOk X.prog X.w H1 s1.heap a (ExV (.ref C) (some dd) a) from I1.hok a _ ha).1)
  obtain ⟨mA, hns, hr⟩ := (show ObjOk X.prog X.w H1 s1.heap dd (.xd fs) from I1.hok dd _ ea)
  obtain ⟨od, ho, hl⟩ := lookIn_ns hns
  obtain ⟨u, hu, ru⟩ := RelO.some_of (v := v) (o := mA n) (by rw [← l]; exact hr n)
  have J : PySem.W.InstAt s1.heap a oe C (some od) := ⟨h1, h2.1, by unfold PySem.W.notCls; rw [h3] <;> rfl, by rw [h2.2]; exact ho⟩
  exact HandSPX.exc_get I1.kIn J T.ga T.gg T.exC (PySem.W.findObj_own T.hdC hno rfl (by rw [hl, hu])) (handed_of ru) ⟨v, H1, I1.tok _, ru, q⟩
def eAt (c n : Str) (fe : EvE) : EvE := fun δ ω => (fe δ ω).bind fun d ω1 => match d with
  | .exc c' [(f, v)] => if c' = c ∧ f = n then .ok v ω1 else .bad
  | _ => .bad
theorem pd_at {c n : Str} (T : XfC X.K (He.ga X.K c)) (hno : PySem.W.findIn X.K (.ref (He.ga X.K c)) n = some none) (he : PEd X W e fa) (hb : attributeBase e n X.env (eval e X.env) = eval e X.env := by rfl) : PEd X W (.Attribute e n pos) (eAt c n fa) := by
  obtain ⟨t, p1, q1⟩ := he.ex
  refine ⟨_, pe_xv p1 hb, fun M al σ H δ ω Q S h => ?_⟩
  refine q1 M al σ H δ ω _ S (post_mono (fun x H1 h1 => ?_) (post_bind (rel := relE X.K M al) h))
  obtain ⟨d1, ω1, e1, S1, f1, r1, h1⟩ := h1
  split at h1
  · rename_i c' f' v'
    split at h1
    · rename_i hc
      obtain ⟨rfl, rfl⟩ := hc
      cases r1 with
      | exc1 g1 g2 g3 => exact ⟨_, _, _, _, _, rfl, g1, T, hno, g2, by simp [List.lookup], h1 _ _ S1 f1 g3⟩
    · exact h1.elim
  · exact h1.elim
end
end DL

namespace DL
open PySem PySem.Spec PyProof.Rows L2 LamX
section
variable {X : Cx} {W : Wt} {P : PP} {K : PySem.W.Frag} {M : Fm} {al : Nat → Option Addr} {σ : L2.St} {H : Hp} {δ : Sls} {ω : Om}
variable {a b e c : Expr} {es : List Expr} {fa fb fc : EvE} {fs : EvA} {pos : Pos} {x f : Str} {p : Pos}
/-! ### isinstance of exceptions that are values -/
def rIsO (K : PySem.W.Frag) : List V → Hp → VK → Prop := fun xs H Q => ∃ (a D : Addr) (c : V) (u : Value) (b : Bool), xs = [.ref a, c] ∧ ClsV c u ∧ (H a = some (ExV (.ref D) none a) ∨ ∃ dd fs, H a = some (ExV (.ref D) (some dd) a) ∧ H dd = some (.xd fs)) ∧ ExcC K D ∧ PySem.W.kitOne K (.ref D) u = some b ∧ Q (.bl b) H
theorem call_isO : CallR X (.builtin "isinstance") (rIsO X.K) := by
  intro pins s σ H xs us Q I r h
  obtain ⟨a, D, c, u, b, rfl, k, hx, C, e, q⟩ := h
  obtain ⟨u1, u2, rfl, r1, r2⟩ := vals2 r
  have e2 := k.eq r2
  subst e2
  cases (show u1 = Value.ref a from r1)
  have hcl : (PySem.W.clsIn X.K D).isSome = true := by
    obtain ⟨cd, hc, _⟩ := PySem.W.any_some C.hd
    rw [hc]
    rfl
  obtain ⟨oe, od, J⟩ : ∃ oe od, PySem.W.InstAt s.heap a oe D od := by
    rcases hx with hx | ⟨dd, fs, hx, hd⟩
    · obtain ⟨oe, vs, h1, h2, h3⟩ := (show ∃ (oe : Obj) (vs : Array Value), s.heap.get? a = some oe ∧ Zc (.ref D) none oe ∧ oe.data = .fields vs from (show ObjOk X.prog X.w H s.heap a (ExV (.ref D) none a) from I.hok a _ hx).1)
      exact ⟨oe, none, h1, h2.1, by unfold PySem.W.notCls; rw [h3] <;> rfl, by rw [h2.2]; trivial⟩
    · obtain ⟨oe, vs, h1, h2, h3⟩ := (show ∃ (oe : Obj) (vs : Array Value), s.heap.get? a = some oe ∧ Zc (.ref D) (some dd) oe ∧ oe.data = .fields vs from (show ObjOk X.prog X.w H s.heap a (ExV (.ref D) (some dd) a) from I.hok a _ hx).1)
      obtain ⟨mA, hns, hr⟩ := (show ObjOk X.prog X.w H s.heap dd (.xd fs) from I.hok dd _ hd)
      obtain ⟨od, ho, hl⟩ := lookIn_ns hns
      exact ⟨oe, some od, h1, h2.1, by unfold PySem.W.notCls; rw [h3] <;> rfl, by rw [h2.2]; exact ho⟩
  exact PySem.W.kia_one (PySem.W.kitx_exc hcl C.hg C.hk C.hs C.ha C.hn C.ht C.hm) I.kIn J e (fun z => nomatch z) fun tk => ⟨.bl b, H, I.kept (t' := tk) fun _ _ z => z, rfl, q⟩
/-- what the head is to tell: each class has just LeafError behind itself -/
def leTail (K : PySem.W.Frag) : List Value := .ref (He.ga K "LeafError") :: He.veBase
def clE (K : PySem.W.Frag) (c : Str) : Bool := (match PySem.W.clsIn K (He.ga K c) with
  | some cd => decide (cd.mro = if c = "LeafError" then leTail K else .ref (He.ga K c) :: leTail K)
  | none => false) && (PySem.W.typeIn K (.ref (He.ga K c)) == some (.type "type"))
def eqE (K : PySem.W.Frag) (cs : List Str) : Bool := cs.all (clE K) && decide ((cs.map (He.ga K)).Nodup)
theorem clE_ok {c : Str} (h : clE K c = true) : ∃ cd, PySem.W.clsIn K (He.ga K c) = some cd ∧ cd.mro = (if c = "LeafError" then leTail K else .ref (He.ga K c) :: leTail K) ∧ (PySem.W.typeIn K (.ref (He.ga K c)) == some (.type "type")) = true := by
  unfold clE at h
  obtain ⟨h1, h2⟩ := Bool.and_eq_true_iff.mp h
  split at h1
  · rename_i cd hc
    exact ⟨cd, hc, of_decide_eq_true h1, h2⟩
  · cases h1
theorem nodup_inj {α β : Type} {g : α → β} : ∀ {l : List α} {a b : α}, (l.map g).Nodup → a ∈ l → b ∈ l → g a = g b → a = b
  | [], _, _, _, h, _, _ => nomatch h
  | y :: l, a, b, nd, ha, hb, e => by
    rw [List.map_cons, List.nodup_cons] at nd
    rcases List.mem_cons.mp ha with ea | ma
    · rcases List.mem_cons.mp hb with eb | mb
      · rw [ea, eb]
      · exact (nd.1 (List.mem_map.mpr ⟨b, mb, by rw [← e, ea]⟩)).elim
    · rcases List.mem_cons.mp hb with eb | mb
      · exact (nd.1 (List.mem_map.mpr ⟨a, ma, by rw [e, eb]⟩)).elim
      · exact nodup_inj nd.2 ma mb e
theorem mroE {c : Str} {v : Value} {cs : List Str} (h : eqE K cs = true) (hc : c ∈ cs) : PySem.W.mroIn K (He.ga K c) v = some ((if c = "LeafError" then leTail K else .ref (He.ga K c) :: leTail K).contains v) := by
  obtain ⟨h1, _⟩ := Bool.and_eq_true_iff.mp h
  obtain ⟨cd, e1, e2, e3⟩ := clE_ok (List.all_eq_true.mp h1 c hc)
  unfold PySem.W.mroIn
  rw [e1, Option.bind_some, e2]
  have ne : (if c = "LeafError" then leTail K else .ref (He.ga K c) :: leTail K).isEmpty = false := by split <;> rfl
  rw [ne]
  rfl
theorem kit_own {c u : Str} {cs : List Str} (h : eqE K cs = true) (hc : c ∈ cs) (hu : u ∈ cs) (hl : ("LeafError" : Str) ∈ cs) : PySem.W.kitOne K (.ref (He.ga K c)) (.ref (He.ga K u)) = some (decide (c = u) || decide (u = "LeafError")) := by
  obtain ⟨h1, h2⟩ := Bool.and_eq_true_iff.mp h
  have nd := of_decide_eq_true h2
  unfold PySem.W.kitOne
  by_cases e : c = u
  · subst e
    simp
  · have ne : He.ga K c ≠ He.ga K u := fun z => e (nodup_inj nd hc hu z)
    have nb : ((Value.ref (He.ga K c)) == (Value.ref (He.ga K u))) = false := by simp [ne]
    rw [nb, if_neg Bool.false_ne_true]
    obtain ⟨cd, e1, e2, e3⟩ := clE_ok (List.all_eq_true.mp h1 u hu)
    show (if ((PySem.W.clsIn K (He.ga K u)).isSome && PySem.W.typeIn K (.ref (He.ga K u)) == some (.type "type")) = true then PySem.W.subIn K (.ref (He.ga K c)) (.ref (He.ga K u)) else none) = _
    rw [e1, e3, if_pos (show ((some cd).isSome && true) = true from rfl)]
    show PySem.W.mroIn K (He.ga K c) (.ref (He.ga K u)) = _
    rw [mroE h hc, decide_eq_false e, Bool.false_or]
    congr 1
    have tail : (leTail K).contains (.ref (He.ga K u)) = decide (u = "LeafError") := by
      unfold leTail
      rw [List.contains_cons]
      have t0 : He.veBase.contains (.ref (He.ga K u)) = false := rfl
      rw [t0, Bool.or_false]
      by_cases eu : u = "LeafError"
      · subst eu
        simp
      · have : He.ga K u ≠ He.ga K "LeafError" := fun z => eu (nodup_inj nd hu hl z)
        simp [eu, this]
    split
    · exact tail
    · rw [List.contains_cons, tail]
      have : ((Value.ref (He.ga K u)) == (Value.ref (He.ga K c))) = false := by simp [Ne.symm ne]
      rw [this, Bool.false_or]
theorem kit_ve {c : Str} {cs : List Str} (h : eqE K cs = true) (hc : c ∈ cs) : PySem.W.kitOne K (.ref (He.ga K c)) (.type "ValueError") = some true := by
  unfold PySem.W.kitOne
  rw [if_neg (by simp)]
  have km : PySem.W.kitMeta "ValueError" = true := by kernel_rfl
  show (if PySem.W.kitMeta "ValueError" = true then PySem.W.subIn K (.ref (He.ga K c)) (.type "ValueError") else none) = _
  rw [if_pos km]
  show PySem.W.mroIn K (He.ga K c) (.type "ValueError") = _
  rw [mroE h hc]
  congr 1
  have t0 : (leTail K).contains (.type "ValueError") = true := by
    unfold leTail
    rw [List.contains_cons]
    have : He.veBase.contains (.type "ValueError") = true := by decide +kernel
    rw [this, Bool.or_true]
  split
  · exact t0
  · rw [List.contains_cons, t0, Bool.or_true]
def gIsE (cs : List Str) : List D → Option D
  | [.exc c _, .glo u] => if c ∈ cs ∧ u ∈ cs then some (.bl (decide (c = u) || decide (u = "LeafError"))) else none
  | [.exc c _, .ty n] => if c ∈ cs ∧ n = "ValueError" then some (.bl true) else none
  | _ => none
theorem o_isE {cs : List Str} (hk : eqE K cs = true) (hc : excOk K cs = true) (hl : ("LeafError" : Str) ∈ cs) : OpN K (rIsO K) (gIsE cs) := ⟨fun sa N H xs as d Q r e nt k => by
  unfold gIsE at e
  split at e
  · split at e
    · rename_i c fs u hcu
      cases e
      obtain ⟨v, w, rfl, r1, r2⟩ := r.two
      have hcl : ClsV w (.ref (He.ga K u)) := clD_cls (t := .own u) r2 rfl
      have kk := kit_own hk hcu.1 hcu.2 hl
      cases r1 with
      | exc0 h => exact ⟨_, _, _, _, _, rfl, hcl, .inl h, excOk_of hc hcu.1, kk, k _ _ (Same.refl _) (.bl _)⟩
      | exc1 h h2 _ => exact ⟨_, _, _, _, _, rfl, hcl, .inr ⟨_, _, h, h2⟩, excOk_of hc hcu.1, kk, k _ _ (Same.refl _) (.bl _)⟩
    · cases e
  · split at e
    · rename_i c fs n hcu
      obtain ⟨hcu, rfl⟩ := hcu
      cases e
      obtain ⟨v, w, rfl, r1, r2⟩ := r.two
      have hcl : ClsV w (.type "ValueError") := clD_cls (K := K) (t := .ty "ValueError") r2 rfl
      have kk := kit_ve hk hcu
      cases r1 with
      | exc0 h => exact ⟨_, _, _, _, _, rfl, hcl, .inl h, excOk_of hc hcu, kk, k _ _ (Same.refl _) (.bl _)⟩
      | exc1 h h2 _ => exact ⟨_, _, _, _, _, rfl, hcl, .inr ⟨_, _, h, h2⟩, excOk_of hc hcu, kk, k _ _ (Same.refl _) (.bl _)⟩
    · cases e
  · cases e⟩
end
end DL

namespace DL
open PySem PySem.Spec PyProof.Rows L2 LamX
section
variable {X : Cx} {W : Wt} {P : PP} {K : PySem.W.Frag} {M : Fm} {al : Nat → Option Addr} {σ : L2.St} {H : Hp} {δ : Sls} {ω : Om}
variable {a b e c : Expr} {es : List Expr} {fa fb fc : EvE} {fs : EvA} {pos : Pos} {x f : Str} {p : Pos}
/-! ### isinstance(ValueError(e), C) -/
def rIsVB (K : PySem.W.Frag) : List V → Hp → VK → Prop := fun xs H Q => ∃ (a : Addr) (c : V) (u : Value) (b : Bool), xs = [.ref a, c] ∧ ClsV c u ∧ H a = some (ExV (.type "ValueError") none a) ∧ PySem.W.kitOne K (.type "ValueError") u = some b ∧ Q (.bl b) H
theorem call_isVB : CallR X (.builtin "isinstance") (rIsVB X.K) := by
  intro pins s σ H xs us Q I r h
  obtain ⟨a, c, u, b, rfl, k, hx, e, q⟩ := h
  obtain ⟨u1, u2, rfl, r1, r2⟩ := vals2 r
  have e2 := k.eq r2
  subst e2
  cases (show u1 = Value.ref a from r1)
  obtain ⟨oe, vs, h1, h2, h3⟩ := (show ∃ (oe : Obj) (vs : Array Value), s.heap.get? a = some oe ∧ Zc (.type "ValueError") none oe ∧ oe.data = .fields vs from (show ObjOk X.prog X.w H s.heap a (ExV (.type "ValueError") none a) from I.hok a _ hx).1)
  exact PySem.W.kia_one (PySem.W.kitx_bexc PySem.F.excAttr_ValueError PySem.F.lkClass_ValueError PySem.F.soClass_ValueError (by decide)) I.kIn ⟨oe, h1, h2.1⟩ e (fun z => nomatch z) fun tk => ⟨.bl b, H, I.kept (t' := tk) fun _ _ z => z, rfl, q⟩
theorem kit_ve_own {c : Str} {cs : List Str} (h : eqE K cs = true) (hc : c ∈ cs) : PySem.W.kitOne K (.type "ValueError") (.ref (He.ga K c)) = some false := by
  obtain ⟨h1, _⟩ := Bool.and_eq_true_iff.mp h
  obtain ⟨cd, e1, e2, e3⟩ := clE_ok (List.all_eq_true.mp h1 c hc)
  unfold PySem.W.kitOne
  rw [if_neg (by simp)]
  show (if ((PySem.W.clsIn K (He.ga K c)).isSome && PySem.W.typeIn K (.ref (He.ga K c)) == some (.type "type")) = true then PySem.W.subIn K (.type "ValueError") (.ref (He.ga K c)) else none) = _
  rw [e1, e3, if_pos (show ((some cd).isSome && true) = true from rfl)]
  show (PySem.fastBuiltinMro "ValueError").map (·.contains (.ref (He.ga K c))) = some false
  generalize He.ga K c = z
  have e : PySem.fastBuiltinMro "ValueError" = some He.veBase := by kernel_rfl
  rw [e]
  rfl
def eIsVB (fs : EvA) : EvE := fun δ ω => (fs δ ω).bind fun ds ω1 => if ds.length ≤ 1000 then .ok (.bl false) ω1 else .bad
theorem pd_isVB {c : Str} {cs : List Str} {p0 p1 p2 pos1 : Pos} (hk : eqE X.K cs = true) (hc : c ∈ cs) (hmi : X.mg "isinstance" = none) (hmv : X.mg "ValueError" = none) (hmc : X.mg c = some (.ref (He.ga X.K c))) (ha : PAd X W (e :: es) fs)
    (hgi : Gl X "isinstance" := by rfl) (hgv : Gl X "ValueError" := by rfl) (hgc : Gl X c := by rfl) (hdb : (c == ("__debug__" : Str)) = false := by decide) (he : starEach (e :: es) X.env = (false, eval e X.env) :: starEach es X.env := by rfl) (hpl : (backTo pos1 (starEach es X.env)).any (·.1) = false := by rfl) :
    PEd X W (.Call (.Name "isinstance" p0) [.Call (.Name "ValueError" p1) (e :: es) [] pos1, .Name c p2] [] pos) (eIsVB fs) := by
  obtain ⟨t, q0, q1⟩ := ha.ex
  refine ⟨_, pe_callB call_isVB hgi hmi (by decide +kernel) (pa_cons (pe_exvB hgv hmv q0 he hpl) (pa_cons (pe_glob (v := .ref (He.ga X.K c)) hgc hmc rfl hdb) pa_nil rfl) rfl), fun M al σ H δ ω Q S h => ?_⟩
  refine q1 M al σ H δ ω _ S (post_mono (fun xs H1 h1 => ?_) (post_bind (rel := relA X.K M al) h))
  obtain ⟨ds, ω1, e1, S1, f1, r1, h1⟩ := h1
  split at h1
  · rename_i hl
    refine ⟨by rw [r1.len]; exact hl, fun a ha => ?_⟩
    have sm := same_upd (o := ExV (.type "ValueError") none a) ha
    exact ⟨a, _, _, false, rfl, .own _, upd_same, kit_ve_own hk hc, h1 _ _ (S1.same sm) (f1.trans (.same sm)) (.bl false)⟩
  · exact h1.elim
/-! ### in, of scalars; a list times a number; repr -/
def scalsD : List D → Option (List V)
  | [] => some []
  | d :: ds => match dScal d, scalsD ds with
    | some x, some xs => some (x :: xs)
    | _, _ => none
theorem scals_rep {sa : Addr} {N : Addr → Prop} {H : Hp} : ∀ {xs : List V} {ds : List D} {ys : List V}, Reps K sa N H xs ds → scalsD ds = some ys → xs = ys
  | _, _, _, .nil, e => by cases e; rfl
  | _, _, _, .cons (d := d) (ds := ds) r rs, e => by
    unfold scalsD at e
    split at e
    · rename_i hx hxs
      cases e
      rw [dScal_rep r hx, scals_rep rs hxs]
    · cases e
theorem dScal_flat {d : D} {v : V} (h : dScal d = some v) : flatV v = true := by
  cases d <;> first | (cases h; rfl) | cases h
theorem scals_flat : ∀ {ds : List D} {ys : List V}, scalsD ds = some ys → ys.all flatV = true
  | [], _, e => by cases e; rfl
  | d :: ds, _, e => by
    unfold scalsD at e
    split at e
    · rename_i hx hxs
      cases e
      rw [List.all_cons, dScal_flat hx, scals_flat hxs]
      rfl
    · cases e
def gInL : D → D → Option D := fun a b => match dScal a, b with
  | some x, .lst ds => (scalsD ds).map fun xs => .bl (inV x xs)
  | _, _ => none
theorem o_inL : Op2 K (rIn K false) gInL := ⟨fun sa N H x y a b d Q ra rb e nt k => by
  unfold gInL at e
  split at e
  · rename_i x' ds hx
    cases q : scalsD ds with
    | none => rw [q] at e; cases e
    | some xs =>
      rw [q] at e
      cases e
      cases rb with
      | lst h n l r =>
        have ex := dScal_rep ra hx
        subst ex
        have exs := scals_rep r q
        subst exs
        exact ⟨_, _, rfl, .inl (SqL.of h), dScal_flat hx, scals_flat q, k _ _ (Same.refl _) (.bl _)⟩
  · cases e⟩
def gRepL : D → D → Option D
  | .lst ds, .int k => if 0 ≤ k ∧ k < 2 ^ 63 ∧ ds.length * k.toNat ≤ sizeLine then some (.lst (List.replicate k.toNat ds).flatten) else none
  | _, _ => none
theorem reps_rep {sa : Addr} {N : Addr → Prop} {H : Hp} {xs : List V} {ds : List D} (r : Reps K sa N H xs ds) : ∀ n, Reps K sa N H (List.replicate n xs).flatten (List.replicate n ds).flatten
  | 0 => .nil
  | n + 1 => by
    rw [List.replicate_succ, List.replicate_succ, List.flatten_cons, List.flatten_cons]
    exact r.app (reps_rep r n)
theorem o_repL : Op2 K rRep gRepL := ⟨fun sa N H x y a b d Q ra rb e nt k => by
  unfold gRepL at e
  split at e
  · split at e
    · rename_i ds i hc
      obtain ⟨h0, h1, h2⟩ := hc
      cases e
      cases rb
      cases ra with
      | lst h n l r =>
        have hl : (List.replicate i.toNat ds).flatten.length ≤ sizeLine := by
          rw [List.length_flatten, List.map_replicate, List.sum_replicate_nat, Nat.mul_comm]
          exact h2
        have hr := reps_rep r i.toNat
        refine ⟨_, _, _, rfl, rfl, h, by omega, h1, by rw [r.len]; exact h2, fun p hp => k _ _ (same_upd hp) (new_ok nt hp (by rw [hr.len]; exact hl) hr)⟩
    · cases e
  · cases e⟩
def isRefD : D → Bool
  | .lst _ => true
  | .tup _ => true
  | _ => false
def gRepr : List D → Option D
  | [d] => (toPy d).bind fun p => if isRefD d = true ∧ p.showable = true ∧ p.hasDict = false ∧ p.depth ≤ 60 ∧ p.shown.length ≤ sizeLine then some (.str p.shown) else none
  | _ => none
def rReprD (K : PySem.W.Frag) : List V → Hp → VK → Prop := fun xs H Q => ∃ (a : Addr) (p : PyData), xs = [.ref a] ∧ Dp K H (.ref a) p ∧ p.showable = true ∧ p.hasDict = false ∧ p.depth ≤ 60 ∧ p.shown.length ≤ sizeLine ∧ Q (.str p.shown) H
theorem call_reprD (hg : X.A.guards = some []) (hu : X.A.units + 64 < cLine) : CallR X (.builtin "repr") (rReprD X.K) := by
  intro pins s σ H xs us Q I r h
  obtain ⟨a, p, rfl, hd, h1, h2, h3, h4, q⟩ := h
  cases r with
  | cons r1 rn =>
    cases rn
    rename_i u
    cases (show u = Value.ref a from r1)
    obtain ⟨as, rr⟩ := Dp.reads I p (.ref a) (.ref a) hd rfl
    exact repr_of_reads' rr h1 (fun z => by rw [h2] at z; cases z) hg (by omega) (fun _ _ z => z) (fun h' w tk hk => ⟨.str p.shown, H, I.kept (t' := tk) hk, ⟨w, rfl⟩, q⟩) h4
theorem o_repr : OpN K (rReprD K) gRepr := ⟨fun sa N H xs as d Q r e nt k => by
  unfold gRepr at e
  split at e
  · rename_i d0
    obtain ⟨v, rfl, r1⟩ := r.one
    cases q : toPy d0 with
    | none => rw [q] at e; cases e
    | some p =>
      rw [q] at e
      simp only [Option.bind_some] at e
      split at e
      · rename_i hc
        obtain ⟨h0, h1, h2, h3, h4⟩ := hc
        cases e
        have hd := r1.dp q
        have key : ∀ a, v = .ref a → rReprD K [v] H Q := fun a ea => by
          subst ea
          exact ⟨a, p, rfl, hd, h1, h2, h3, h4, k _ _ (Same.refl _) (.str _)⟩
        cases r1 with
        | tup _ _ _ => exact key _ rfl
        | lst _ _ _ _ => exact key _ rfl
        | _ => cases h0
      · cases e
  · cases e⟩
/-! ### a, b, c = x, y, z -/
def sPar3 (i j l : Nat) (fs : EvA) : EvS := fun δ ω => (fs δ ω).bind fun ds ω1 => match ds with
  | [d1, d2, d3] => .ok (.nx (((δ.set i (.val d1)).set j (.val d2)).set l (.val d3))) ω1
  | _ => .bad
theorem Reps.three {sa : Addr} {N : Addr → Prop} {H : Hp} {xs : List V} {d1 d2 d3 : D} (r : Reps K sa N H xs [d1, d2, d3]) : ∃ u v w, xs = [u, v, w] ∧ Rep K sa N H u d1 ∧ Rep K sa N H v d2 ∧ Rep K sa N H w d3 := by
  cases r with
  | cons r1 rs =>
    obtain ⟨v, w, rfl, r2, r3⟩ := Reps.two rs
    exact ⟨_, v, w, rfl, r1, r2, r3⟩
theorem less1 {N : Addr → Prop} {H1 : Hp} {i : Nat} {al : Nat → Option Addr} : ∀ b, NA N (fun j => if j = i then none else al j) b → Tr H1 b → NA N al b := fun b hb _ => by
  rcases hb with hb | ⟨k, hb⟩
  · exact .inl hb
  · by_cases e : k = i
    · simp only [e, if_pos] at hb; cases hb
    · simp only [if_neg e] at hb; exact .inr ⟨k, hb⟩
theorem sd_par3 {i j l : Nat} {x y z : Str} {px py pz pt : Pos} {kt k2 : Nat} {pt2 : Pos} (hc : X.calm = true) (hN : X.N.Nodup) (hi : X.N[i]? = some x) (hj : X.N[j]? = some y) (hl : X.N[l]? = some z) (hij : i ≠ j) (hil : i ≠ l) (hjl : j ≠ l)
    (hx : X.env.scope.names.lookup x = some .local) (hy : X.env.scope.names.lookup y = some .local) (hz : X.env.scope.names.lookup z = some .local) (ha : PAd X W [a, b, c] fs)
    (hw : swappedStores [.Tuple [.Name x px, .Name y py, .Name z pz] kt pt] (.Tuple [a, b, c] k2 pt2) X.env = pure (some [x, y, z]) := by rfl)
    (hs : swapsWithSole [.Tuple [.Name x px, .Name y py, .Name z pz] kt pt] (.Tuple [a, b, c] k2 pt2) pos.line X.env = pure false := by rfl) :
    PSd X W (.Assign [.Tuple [.Name x px, .Name y py, .Name z pz] kt pt] (.Tuple [a, b, c] k2 pt2) pos) (sPar3 i j l fs) := by
  obtain ⟨t, p1, q1⟩ := ha.ex
  refine ⟨_, ps_par3 hc hN hi hj hl hij hil hjl hx hy hz p1 hw hs, fun M al σ H δ ω DD S h => ?_⟩
  refine q1 M al σ H δ ω _ S (post_mono (fun xs H1 h1 => ?_) (posts_bind (rel := relA X.K M al) S.fr h))
  obtain ⟨ds, ω1, e1, S1, f1, r1, h1⟩ := h1
  split at h1
  · rename_i d1 d2 d3
    obtain ⟨u, v, w, rfl, r2, r3, r4⟩ := r1.three
    refine ⟨u, v, w, rfl, ?_⟩
    have S2 := S1.set (i := i) r2
    have S3 := S2.set (i := j) (r3.less less1)
    have S4 := S3.set (i := l) ((r4.less less1).less less1)
    exact h1 _ _ H1 S4 f1.s ((AlExt.drop.trans (Z := M.Z) (Fr.refl _) AlExt.drop).trans (Z := M.Z) (Fr.refl _) AlExt.drop)
  · exact h1.elim
end
section
variable {Pr : Program} {w : World} {K : PySem.W.Frag} {mg : Str → Option Value} {base : Heap} {x qual : Str} {st : Stmt} {fd : FuncData} {k : Nat}
/-- the law, where no repr is under way -/
theorem law_okG {T : List (Addr × Str)} {N : List Str} {g : EvS} (F : FunD K x qual (defArgs st) (defBody st) (defScope st) [] [] (He.ga K x) fd) (sc : FnScope ("script" :: "state" :: N) ["script"] (defScope st))
    (hb : ∀ (cdv : Value), cdv = .ref (He.codeOf K (x, none)) → ∀ (A : Around) (outer : List Env) (s : Shared) (H : Hp) (E : XK), (A.deeper (envOfC qual (defScope st) s.heap.objs.size (He.ga K x) cdv)).guards = some [] → Room k (A.deeper (envOfC qual (defScope st) s.heap.objs.size (He.ga K x) cdv)) →
      Takes (cxOf (L2.CX Pr w) Pr w K mg base ("script" :: "state" :: N) qual (defScope st) (He.ga K x) cdv A outer s H E) (fun cls d _ H => E cls d H) →
      ∃ st0 rest, defBody st = st0 :: rest ∧ PS (cxOf (L2.CX Pr w) Pr w K mg base ("script" :: "state" :: N) qual (defScope st) (He.ga K x) cdv A outer s H E) st0 (tAsg (tBegun K T E) (gName 1)) ∧
        PSsd (cxOf (L2.CX Pr w) Pr w K mg base ("script" :: "state" :: N) qual (defScope st) (He.ga K x) cdv A outer s H E) ⟨E, PD T⟩ rest g) :
    FnG Pr w K mg base (L2.CX Pr w) (k + 1) (He.ga K x) fd ["script"] (spLaw K T N.length g) := by
  obtain ⟨oc, od, dV, kV, doc, pm, an, cdv, ct, osl, rfl, lk, hcd, _, _⟩ := F.ex
  obtain ⟨c, ec⟩ := He.codeIn_ref hcd
  have e2 : cdv = .ref (He.codeOf K (x, none)) := by
    have := He.codeOf_eq (p := (x, none)) lk ec
    rw [this, ec]
  refine fn_ofG lk hcd sc (fun vs H Q E ⟨a, ns, h, _⟩ => by rw [h]; rfl) fun A outer s H vs Q E hgu hr h => ?_
  obtain ⟨a, ns, rfl, hs, hl, tT, ⟨ω', hg⟩, h⟩ := h
  obtain ⟨st0, rest, eb, p0, hrest⟩ := hb cdv e2 A outer s H E hgu hr (takes_of rfl rfl rfl rfl)
  obtain ⟨t, p1, q1⟩ := hrest.ex
  refine ⟨_, by rw [eb]; exact pss_cons p0 p1, ?_⟩
  refine ⟨_, rfl, a, ns, rfl, hs, hl, tT, fun sa ga ca H' fr n1 n2 n3 dg tT' => ?_⟩
  let Z : Addr → Prop := fun b => b = sa ∨ b = ga ∨ b = ca
  let M : Fm := ⟨sa, Z, Z, fun ω H => DrawG sa ga ca ω H ∧ Tabs T H, H'⟩
  have na : Tr H a → ¬ Z a := fun t z => by
    rcases z with z | z | z
    · exact n1 (z ▸ t)
    · exact n2 (z ▸ t)
    · exact n3 (z ▸ t)
  have rs : Rep K sa Z H' (.ref a) (.scr ns) := by
    have r := scr_rep (N := Z) (sa := sa) hs hl na
    exact r.mono (Z := fun _ => False) fr fun _ z => z.elim
  have S0 : DSt K (PD T) M (fun _ => none) (L2.start ("script" :: "state" :: N) [V.ref a, V.ref sa]) H' ([D.scr ns, D.st].map .val ++ List.replicate N.length .emp) (om0 ns) := by
    refine DSt.start (M := M) (n := 2) (ds := [.scr ns, .st]) ⟨ga, ca, rfl, rfl⟩ (fun _ z => z) PD.gm ⟨dg, tT'⟩ (fun b z => ?_) (.cons rs (.cons .st .nil)) rfl (by show N.length + 1 + 1 = 2 + (N.length + 1 + 1 - 2); omega)
    rcases z with z | z | z
    · rw [z]; exact ⟨_, dg.d, trivial⟩
    · rw [z]; exact ⟨_, dg.g, trivial⟩
    · rw [z]; exact ⟨_, dg.c, trivial⟩
  have es : (L2.start ("script" :: "state" :: N) [V.ref a]).set 1 (some (V.ref sa)) = L2.start ("script" :: "state" :: N) [V.ref a, V.ref sa] := by
    unfold L2.start
    rfl
  show t _ ((L2.start ("script" :: "state" :: N) [V.ref a]).set 1 (some (V.ref sa))) H'
  rw [es]
  refine q1 M _ _ _ _ (om0 ns) _ S0 ?_
  show PostS _ M _ _ (g (.val (.scr ns) :: .val .st :: List.replicate N.length .emp) (om0 ns)) _ _
  rw [hg]
  intro v H2 _ _ r
  cases r
  exact h H2
end
end DL

namespace DL
open PySem PySem.Spec PyProof.Rows L2 LamX
section
variable {X : Cx} {W : Wt} {K : PySem.W.Frag} {M : Fm} {al : Nat → Option Addr} {σ : L2.St} {H : Hp} {δ : Sls}
variable {a b e c : Expr} {es : List Expr} {fa fb fc : EvE} {fs : EvA} {pos : Pos}
/-- enumerate(list) -/
def numbered (ds : List D) : List D := ds.zipIdx.map fun p => .tup [.int (p.2 : Nat), p.1]
theorem numbered_length (ds : List D) : (numbered ds).length = ds.length := by
  unfold numbered
  rw [List.length_map, List.length_zipIdx]
theorem numbered_get {ds : List D} {i : Nat} {d : D} (h : ds[i]? = some d) : (numbered ds)[i]? = some (.tup [.int (i : Nat), d]) := by
  unfold numbered
  rw [List.getElem?_map, List.getElem?_zipIdx, h]
  simp
def iEnumL (fs : EvA) : EvI := fun δ ω => (fs δ ω).bind fun ds ω1 => match ds with
  | [.lst xs] => .ok (numbered xs) ω1
  | _ => .bad
theorem itD_enumL {sa : Addr} {N : Addr → Prop} {a : Addr} {xs : List V} {ds : List D} (ha : H a = some (.lst xs)) (nN : ¬ N a) (hl : xs.length ≤ sizeLine) (r : Reps K sa N H xs ds) : ItD K sa N (Ite K a) H (numbered ds) := ⟨by rw [numbered_length, ← r.len]; exact hl, fun N' Z hn hz i H' f => by
  have h' : SqL K H' a xs := SqL.of (f.keep _ _ ha fun z => nN (hz _ z))
  rw [numbered_length]
  refine ⟨fun hi => ?_, fun hi => ⟨xs, h', by rw [r.len]; exact hi⟩⟩
  have hx : i < xs.length := by rw [r.len]; exact hi
  refine ⟨⟨xs, xs[i], h', List.getElem?_eq_getElem hx⟩, fun x H'' y => ?_⟩
  obtain ⟨T, x0, rfl, hT, rfl, hx0⟩ := y
  obtain ⟨d, hd, rd⟩ := r.get (hx0 xs h')
  have sm := same_upd (o := .tup [.int (i : Nat), x0]) hT
  exact ⟨sm, _, numbered_get hd, .tup (SqT.of upd_same) (by show 2 ≤ sizeLine; decide) (.cons (.int _) (.cons (same_rep sm (rd.onto hn hz f)) .nil))⟩⟩
theorem id_enumL {p tpos : Pos} {elts : List Expr} {kk : Nat} (hm : X.mg "enumerate" = none) (h : PAd X W [a] fs) (hg : Gl X "enumerate" := by rfl) (hs : starEach [a] X.env = [(false, eval a X.env)] := by rfl) : PId X W (.Tuple elts kk tpos) (.Call (.Name "enumerate" p) [a] [] pos) (iEnumL fs) := by
  obtain ⟨t, p1, q1⟩ := h.ex
  refine ⟨_, pi_enum hg hm p1 hs, fun M al σ H δ ω R S h => ?_⟩
  refine q1 M al σ H δ ω _ S (post_mono (fun x H1 h1 => ?_) (post_bind (rel := relA X.K M al) h))
  obtain ⟨d1, ω1, e1, S1, f1, r1, h1⟩ := h1
  split at h1
  · obtain ⟨v, rfl, r⟩ := r1.one
    cases r with
    | lst h n l r => exact ⟨_, _, rfl, SqL.of h, h1 _ _ S1 f1 (itD_enumL h n l r)⟩
  · exact h1.elim
end
end DL

namespace DL
open PySem
/-! ### draws, bounded by turns -/
def Tb (b : Int) (ω : Om) : Prop := 0 ≤ ω.turn ∧ ω.turn ≤ b
theorem Tb.ok {b : Int} {ω : Om} (h : Tb b ω) (hb : b < 2 ^ 40) : turnOk ω := ⟨h.1, Int.lt_of_le_of_lt h.2 hb⟩
theorem Tb.le {b c : Int} {ω : Om} (h : Tb b ω) (hb : b ≤ c) : Tb c ω := ⟨h.1, Int.le_trans h.2 hb⟩
theorem draw_step {b n : Int} {ω : Om} (h : Tb b ω) (hb : b < 2 ^ 40) (h0 : 0 < n) (h1 : n < 2 ^ 30) : ∃ k : Nat, ∃ ω', drawF [.st, .int n] ω = .ok (.int (k : Nat)) ω' ∧ (k : Int) < n ∧ Tb (b + 1) ω' := by
  obtain ⟨d0, d1⟩ := drawI_lt (ω := ω) h0
  refine ⟨(drawI n ω).toNat, drawO n ω, ?_, by omega, ?_⟩
  · rw [Int.toNat_of_nonneg d0]
    exact if_pos ⟨h0, h1, h.ok hb⟩
  · obtain ⟨h2, h3⟩ := h
    rcases drawO_turn n ω with e | e <;> (unfold Tb; rw [e]; omega)
theorem pick_step {b : Int} {ω : Om} {d : D} {xs : List D} (hc : choices d = some xs) (h : Tb b ω) (hb : b < 2 ^ 40) (h0 : 0 < xs.length) (h1 : xs.length < 2 ^ 24) : ∃ y, ∃ ω', pickF [.st, d] ω = .ok y ω' ∧ y ∈ xs ∧ Tb (b + 1) ω' := by
  have hn : (0 : Int) < (xs.length : Nat) := by omega
  obtain ⟨d0, d1⟩ := drawI_lt (ω := ω) hn
  have hi : (drawI xs.length ω).toNat < xs.length := by omega
  refine ⟨xs.getD (drawI xs.length ω).toNat .non, drawO xs.length ω, ?_, ?_, ?_⟩
  · show (match choices d with
      | some xs => if 0 < xs.length ∧ xs.length < 2 ^ 24 ∧ turnOk ω then Rs.ok (xs.getD (drawI xs.length ω).toNat .non) (drawO xs.length ω) else .bad
      | none => .bad) = _
    rw [hc]
    exact if_pos ⟨h0, h1, h.ok hb⟩
  · have e : xs.getD (drawI xs.length ω).toNat .non = xs[(drawI xs.length ω).toNat] := by simp [hi]
    rw [e]
    exact List.getElem_mem hi
  · obtain ⟨h2, h3⟩ := h
    rcases drawO_turn xs.length ω with e | e <;> (unfold Tb; rw [e]; omega)
theorem range_run {fs : EvA} {δ : Sls} {ω ω' : Om} {k : Nat} (h : fs δ ω = .ok [.int (k : Nat)] ω') (hk : k ≤ 1000000) : iRange fs δ ω = .ok ((List.range k).map fun (j : Nat) => D.int (j : Nat)) ω' := by
  have hs : sizeLine = 16777216 := rfl
  have hc : -(2 ^ 62) ≤ ((k : Nat) : Int) ∧ ((k : Nat) : Int) ≤ (sizeLine : Nat) := by rw [hs]; omega
  simp only [iRange, h, Rs.bind_ok, hc, and_self, if_true, Int.toNat_natCast]
/-! ### lists -/
theorem gAdd_L {a b : List D} (h : a.length + b.length ≤ sizeLine) : gAdd (.lst a) (.lst b) = some (.lst (a ++ b)) := by
  show ((none : Option D).or ((none : Option D).or ((if a.length + b.length ≤ sizeLine then some (.lst (a ++ b)) else none).or _))) = _
  rw [if_pos h]
  rfl
theorem gLst_ok {a : List D} (h : a.length ≤ sizeLine) : gLst a = some (.lst a) := if_pos h
/-! ### statements run -/
theorem sSeq_run {a b : EvS} {δ δ1 : Sls} {ω ω1 : Om} (h : a δ ω = .ok (.nx δ1) ω1) : sSeq a b δ ω = b δ1 ω1 := by
  unfold sSeq
  rw [h]
  rfl
theorem sFor_run {f : EvI} {g : EvG} {body : EvS} {δ : Sls} {ω ω1 : Om} {ds : List D} (h : f δ ω = .ok ds ω1) : sFor f g body δ ω = loopF g body ds δ ω1 := by
  unfold sFor
  rw [h]
  rfl
theorem sPar3_run {i j l : Nat} {fs : EvA} {δ : Sls} {ω ω1 : Om} {d1 d2 d3 : D} (h : fs δ ω = .ok [d1, d2, d3] ω1) : sPar3 i j l fs δ ω = .ok (.nx (((δ.set i (.val d1)).set j (.val d2)).set l (.val d3))) ω1 := by
  unfold sPar3
  rw [h]
  rfl
theorem sSet_run {i : Nat} {fe : EvE} {δ : Sls} {ω ω1 : Om} {d : D} (h : fe δ ω = .ok d ω1) : sSet i fe δ ω = .ok (.nx (δ.set i (.val d))) ω1 := by
  unfold sSet
  rw [h]
  rfl
theorem eLst_run {fs : EvA} {δ : Sls} {ω ω1 : Om} {ds : List D} (h : fs δ ω = .ok ds ω1) (hl : ds.length ≤ sizeLine) : eOpN gLst fs δ ω = .ok (.lst ds) ω1 := by
  unfold eOpN
  rw [h]
  show rs1 (gLst ds) ω1 = _
  rw [gLst_ok hl]
  rfl
theorem toPyL_map {α : Type} (u : α → D) (v : α → PyData) (h : ∀ a, toPy (u a) = some (v a)) : ∀ l : List α, toPy.toPyL (l.map u) = some (l.map v)
  | [] => rfl
  | a :: r => by
    have ih := toPyL_map u v h r
    rw [List.map_cons, List.map_cons]
    unfold toPy.toPyL
    rw [h a, ih]
theorem canLay_map {α : Type} (v : α → PyData) (h : ∀ a, (v a).canLay0 = true) : ∀ l : List α, PyData.canLayAll0 (l.map v) = true
  | [] => rfl
  | a :: r => by
    rw [List.map_cons]
    unfold PyData.canLayAll0
    rw [h a, canLay_map v h r]
    rfl
theorem depth_map {α : Type} (v : α → PyData) (h : ∀ a, (v a).depth = 0) : ∀ l : List α, PyData.depthAll (l.map v) = 0
  | [] => rfl
  | a :: r => by
    rw [List.map_cons]
    unfold PyData.depthAll
    rw [h a, depth_map v h r]
    rfl
/-- a list of plain things is not unlike itself -/
theorem gNe_self {α : Type} (u : α → D) (v : α → PyData) (h : ∀ a, toPy (u a) = some (v a)) (h1 : ∀ a, (v a).canLay0 = true) (h2 : ∀ a, (v a).depth = 0) (l : List α) : gNe (.lst (l.map u)) (.lst (l.map u)) = some (.bl false) := by
  have e1 : toPy (.lst (l.map u)) = some (.list (l.map v)) := by
    show (toPy.toPyL (l.map u)).map PyData.list = _
    rw [toPyL_map u v h l]
    rfl
  have c : (PyData.list (l.map v)).canLay0 = true := by
    show PyData.canLayAll0 (l.map v) = true
    exact canLay_map v h1 l
  have dd : (PyData.list (l.map v)).depth = 1 := by
    show PyData.depthAll (l.map v) + 1 = 1
    rw [depth_map v h2 l]
  have sh : SeqAt.shaped (PyData.list (l.map v)) = true := by
    unfold SeqAt.shaped
    rw [c, dd]
    rfl
  have rf := SeqAt.eqv_refl _ c
  show ((none : Option D).or (gEqD true (.lst (l.map u)) (.lst (l.map u)))) = _
  unfold gEqD
  rw [e1]
  show (none : Option D).or (if SeqAt.shaped (PyData.list (l.map v)) = true ∧ SeqAt.shaped (PyData.list (l.map v)) = true then some (.bl (if true = true then !PyData.eqv (PyData.list (l.map v)) (PyData.list (l.map v)) else PyData.eqv (PyData.list (l.map v)) (PyData.list (l.map v)))) else none) = _
  rw [if_pos ⟨sh, sh⟩, if_pos rfl, rf]
  rfl
end DL

namespace K00
open PySem PySem.Spec PyProof.Rows L2 LamX DL
/-! ### the text -/
def top (i : Nat) : Stmt := PySem.Challenge.pw_sureleaves_k00_errors_apart.main.body.getD i (.Pass ⟨0, 0, 0, 0⟩)
abbrev t_w_begun : Stmt := top 63
abbrev t_w_blended : Stmt := top 64
theorem sc_w_blended : FnScope ["state", "turn", "found", "prime", "blend", "cell"] ["state"] (defScope t_w_blended) := ⟨rfl, rfl, rfl, by decide +kernel, rfl, by decide +kernel, by decide +kernel⟩
abbrev t_w_draw : Stmt := top 65
theorem sc_w_draw : FnScope ["state", "size_here", "found"] ["state", "size_here"] (defScope t_w_draw) := ⟨rfl, rfl, rfl, by decide +kernel, rfl, by decide +kernel, by decide +kernel⟩
abbrev t_w_pick : Stmt := top 66
theorem sc_w_pick : FnScope ["state", "several"] ["state", "several"] (defScope t_w_pick) := ⟨rfl, rfl, rfl, by decide +kernel, rfl, by decide +kernel, by decide +kernel⟩
abbrev t_w_k00_flags : Stmt := top 67
theorem sc_w_k00_flags : FnScope ["error", "found"] ["error"] (defScope t_w_k00_flags) := ⟨rfl, rfl, rfl, by decide +kernel, rfl, by decide +kernel, by decide +kernel⟩
abbrev t_law : Stmt := top 68
theorem sc_law : FnScope ["script", "state", "turn", "text", "number", "other", "made", "at", "error", "place", "base", "told"] ["script"] (defScope t_law) := ⟨rfl, rfl, rfl, by decide +kernel, rfl, by decide +kernel, by decide +kernel⟩
def TT (K : PySem.W.Frag) : List (Addr × Str) := []
def kb : List (Cn × Cn × Bool) := []
def kcs : List Str := []
theorem kb_cs : ∀ p ∈ kb, ∀ c, p.1 = .own c → c ∈ kcs := kb_cs_of (by decide +kernel)
def isx (c : Str) : Bool := decide (c ∈ kcs)
theorem isx_of {P : Str → Prop} (h : ∀ c ∈ kcs, P c) : ∀ c, isx c = true → P c := fun c e => h c (of_decide_eq_true e)
def vcs0 : List Str := (["LeafError", "BadAsks", "BadAxis", "BadBits", "BadBush", "BadCase", "BadContent", "BadDeal", "BadDemands", "BadEvent", "BadFilter", "BadFormula", "BadHistory", "BadLabel", "BadMoment", "BadName", "BadNumber", "BadNumbered", "BadPath", "BadPaths"] : List Str) ++ (["BadPlace", "BadProgramme", "BadQuestion", "BadRow", "BadRowOfBushes", "BadSchema", "BadShelf", "BadSize", "BadStance", "BadStanding", "BadState", "BadStates", "BadSum", "BadTable", "BadTables", "BadThing", "BadTree", "BadTreeEdit", "BadTruths", "BadTurnState"] : List Str) ++ (["BadTurning", "BadWholeEdit", "Broad", "LargeRow", "LooksWithin", "NoDocument", "NotOver", "NotSayable", "NothingDone", "NothingUndone", "TooGreat", "Wide"] : List Str)
def vcs1 : List (Str × Str) := [("BadEvents", "number"), ("BadLine", "number"), ("BadModules", "fault"), ("BadSigns", "at"), ("CannotDeal", "word"), ("CannotEdit", "word"), ("CannotFollow", "word"), ("LongPaper", "parts"), ("NoEvent", "word")]
def vcs : List Str := vcs0 ++ vcs1.map (·.1)
theorem v_LeafError : ("LeafError" : Str) ∈ vcs0 := by decide +kernel
theorem v_BadAsks : ("BadAsks" : Str) ∈ vcs0 := by decide +kernel
theorem v_BadAxis : ("BadAxis" : Str) ∈ vcs0 := by decide +kernel
theorem v_BadBits : ("BadBits" : Str) ∈ vcs0 := by decide +kernel
theorem v_BadBush : ("BadBush" : Str) ∈ vcs0 := by decide +kernel
theorem v_BadCase : ("BadCase" : Str) ∈ vcs0 := by decide +kernel
theorem v_BadContent : ("BadContent" : Str) ∈ vcs0 := by decide +kernel
theorem v_BadDeal : ("BadDeal" : Str) ∈ vcs0 := by decide +kernel
theorem v_BadDemands : ("BadDemands" : Str) ∈ vcs0 := by decide +kernel
theorem v_BadEvent : ("BadEvent" : Str) ∈ vcs0 := by decide +kernel
theorem v_BadFilter : ("BadFilter" : Str) ∈ vcs0 := by decide +kernel
theorem v_BadFormula : ("BadFormula" : Str) ∈ vcs0 := by decide +kernel
theorem v_BadHistory : ("BadHistory" : Str) ∈ vcs0 := by decide +kernel
theorem v_BadLabel : ("BadLabel" : Str) ∈ vcs0 := by decide +kernel
theorem v_BadMoment : ("BadMoment" : Str) ∈ vcs0 := by decide +kernel
theorem v_BadName : ("BadName" : Str) ∈ vcs0 := by decide +kernel
theorem v_BadNumber : ("BadNumber" : Str) ∈ vcs0 := by decide +kernel
theorem v_BadNumbered : ("BadNumbered" : Str) ∈ vcs0 := by decide +kernel
theorem v_BadPath : ("BadPath" : Str) ∈ vcs0 := by decide +kernel
theorem v_BadPaths : ("BadPaths" : Str) ∈ vcs0 := by decide +kernel
theorem v_BadPlace : ("BadPlace" : Str) ∈ vcs0 := by decide +kernel
theorem v_BadProgramme : ("BadProgramme" : Str) ∈ vcs0 := by decide +kernel
theorem v_BadQuestion : ("BadQuestion" : Str) ∈ vcs0 := by decide +kernel
theorem v_BadRow : ("BadRow" : Str) ∈ vcs0 := by decide +kernel
theorem v_BadRowOfBushes : ("BadRowOfBushes" : Str) ∈ vcs0 := by decide +kernel
theorem v_BadSchema : ("BadSchema" : Str) ∈ vcs0 := by decide +kernel
theorem v_BadShelf : ("BadShelf" : Str) ∈ vcs0 := by decide +kernel
theorem v_BadSize : ("BadSize" : Str) ∈ vcs0 := by decide +kernel
theorem v_BadStance : ("BadStance" : Str) ∈ vcs0 := by decide +kernel
theorem v_BadStanding : ("BadStanding" : Str) ∈ vcs0 := by decide +kernel
theorem v_BadState : ("BadState" : Str) ∈ vcs0 := by decide +kernel
theorem v_BadStates : ("BadStates" : Str) ∈ vcs0 := by decide +kernel
theorem v_BadSum : ("BadSum" : Str) ∈ vcs0 := by decide +kernel
theorem v_BadTable : ("BadTable" : Str) ∈ vcs0 := by decide +kernel
theorem v_BadTables : ("BadTables" : Str) ∈ vcs0 := by decide +kernel
theorem v_BadThing : ("BadThing" : Str) ∈ vcs0 := by decide +kernel
theorem v_BadTree : ("BadTree" : Str) ∈ vcs0 := by decide +kernel
theorem v_BadTreeEdit : ("BadTreeEdit" : Str) ∈ vcs0 := by decide +kernel
theorem v_BadTruths : ("BadTruths" : Str) ∈ vcs0 := by decide +kernel
theorem v_BadTurnState : ("BadTurnState" : Str) ∈ vcs0 := by decide +kernel
theorem v_BadTurning : ("BadTurning" : Str) ∈ vcs0 := by decide +kernel
theorem v_BadWholeEdit : ("BadWholeEdit" : Str) ∈ vcs0 := by decide +kernel
theorem v_Broad : ("Broad" : Str) ∈ vcs0 := by decide +kernel
theorem v_LargeRow : ("LargeRow" : Str) ∈ vcs0 := by decide +kernel
theorem v_LooksWithin : ("LooksWithin" : Str) ∈ vcs0 := by decide +kernel
theorem v_NoDocument : ("NoDocument" : Str) ∈ vcs0 := by decide +kernel
theorem v_NotOver : ("NotOver" : Str) ∈ vcs0 := by decide +kernel
theorem v_NotSayable : ("NotSayable" : Str) ∈ vcs0 := by decide +kernel
theorem v_NothingDone : ("NothingDone" : Str) ∈ vcs0 := by decide +kernel
theorem v_NothingUndone : ("NothingUndone" : Str) ∈ vcs0 := by decide +kernel
theorem v_TooGreat : ("TooGreat" : Str) ∈ vcs0 := by decide +kernel
theorem v_Wide : ("Wide" : Str) ∈ vcs0 := by decide +kernel
theorem v_BadEvents : (("BadEvents", "number") : Str × Str) ∈ vcs1 := by decide +kernel
theorem v_BadLine : (("BadLine", "number") : Str × Str) ∈ vcs1 := by decide +kernel
theorem v_BadModules : (("BadModules", "fault") : Str × Str) ∈ vcs1 := by decide +kernel
theorem v_BadSigns : (("BadSigns", "at") : Str × Str) ∈ vcs1 := by decide +kernel
theorem v_CannotDeal : (("CannotDeal", "word") : Str × Str) ∈ vcs1 := by decide +kernel
theorem v_CannotEdit : (("CannotEdit", "word") : Str × Str) ∈ vcs1 := by decide +kernel
theorem v_CannotFollow : (("CannotFollow", "word") : Str × Str) ∈ vcs1 := by decide +kernel
theorem v_LongPaper : (("LongPaper", "parts") : Str × Str) ∈ vcs1 := by decide +kernel
theorem v_NoEvent : (("NoEvent", "word") : Str × Str) ∈ vcs1 := by decide +kernel
theorem htop : (PySem.Challenge.pw_sureleaves_k00_errors_apart.main.scope.names.lookup ("super" : Str)).isSome = false := by decide +kernel
def exV (K : PySem.W.Frag) : Bool := eqE K vcs && (excOk K vcs && ((vcs0.all fun c => (He.Fa.glo c).ok K && (He.Fa.exc c).ok K) && (vcs1.all fun p => (He.Fa.glo p.1).ok K && (iniB PySem.Challenge.pw_sureleaves_k00_errors_apart K p.1 p.2 && L2.xfB K (He.ga K p.1)))))
def flagN : List Str := (["BadAsks", "BadAxis", "BadBits", "BadBush", "BadCase", "BadContent", "BadDeal", "BadDemands", "BadEvent", "BadEvents", "BadFilter", "BadFormula", "BadHistory", "BadLabel", "BadLine", "BadModules", "BadMoment", "BadName", "BadNumber", "BadNumbered"] : List Str) ++ (["BadPath", "BadPaths", "BadPlace", "BadProgramme", "BadQuestion", "BadRow", "BadRowOfBushes", "BadSchema", "BadShelf", "BadSigns", "BadSize", "BadStance", "BadStanding", "BadState", "BadStates", "BadSum", "BadTable", "BadTables", "BadThing", "BadTree"] : List Str) ++ (["BadTreeEdit", "BadTruths", "BadTurnState", "BadTurning", "BadWholeEdit", "Broad", "CannotDeal", "CannotEdit", "CannotFollow", "LargeRow", "LongPaper", "LooksWithin", "NoDocument", "NoEvent", "NotOver", "NotSayable", "NothingDone", "NothingUndone", "TooGreat", "Wide"] : List Str)
theorem le_in : ("LeafError" : Str) ∈ vcs := by decide +kernel
def f_flags : List D → Om → Rs D := fun ds ω => match ds with
  | [.exc c _] => if c ∈ vcs then .ok (.lst (flagN.map fun n => .bl (decide (c = n)))) ω else .bad
  | _ => .bad

end K00

namespace K00
open PySem PySem.Spec PyProof.Rows L2 LamX DL
/-! ### the head -/
def fa : List He.Fa := [.glo "_law_begun", .glo "_law_blended", .glo "_law_draw", .glo "_law_pick", .glo "_law_k00_flags", .glo "law", .glo "LeafError", .free "ValueError", .free "abs", .free "enumerate", .free "int", .free "isinstance", .free "len", .free "min", .free "range", .free "repr", .free "super"]
def d_w_begun : He.DefD := ⟨("_law_begun", none), "_law_begun", "_law_begun", defArgs t_w_begun, defBody t_w_begun, defScope t_w_begun, [], []⟩
def d_w_blended : He.DefD := ⟨("_law_blended", none), "_law_blended", "_law_blended", defArgs t_w_blended, defBody t_w_blended, defScope t_w_blended, [], []⟩
def d_w_draw : He.DefD := ⟨("_law_draw", none), "_law_draw", "_law_draw", defArgs t_w_draw, defBody t_w_draw, defScope t_w_draw, [], []⟩
def d_w_pick : He.DefD := ⟨("_law_pick", none), "_law_pick", "_law_pick", defArgs t_w_pick, defBody t_w_pick, defScope t_w_pick, [], []⟩
def d_w_k00_flags : He.DefD := ⟨("_law_k00_flags", none), "_law_k00_flags", "_law_k00_flags", defArgs t_w_k00_flags, defBody t_w_k00_flags, defScope t_w_k00_flags, [], []⟩
def d_law : He.DefD := ⟨("law", none), "law", "law", defArgs t_law, defBody t_law, defScope t_law, [], []⟩
def fn : List He.DefD := [d_w_begun, d_w_blended, d_w_draw, d_w_pick, d_w_k00_flags, d_law]
def tf : List He.Defn := []
def ex (K : PySem.W.Frag) : Bool := kbOk K kb && (excOk K kcs && (decide ((tf.map fun p => (He.cT K p).2).Nodup) && exV K))
def loose0 : List Str := ["LeafError", "BadAsks", "BadAxis", "BadBits", "BadBush", "BadCase", "BadContent", "BadDeal", "BadDemands", "BadEvent", "BadEvents", "BadFilter", "BadFormula", "BadHistory", "BadLabel", "BadLine", "BadModules", "BadMoment", "BadName", "BadNumber", "BadNumbered", "BadPath", "BadPaths", "BadPlace", "BadProgramme", "BadQuestion", "BadRow", "BadRowOfBushes", "BadSchema", "BadShelf"]
def loose1 : List Str := ["BadSigns", "BadSize", "BadStance", "BadStanding", "BadState", "BadStates", "BadSum", "BadTable", "BadTables", "BadThing", "BadTree", "BadTreeEdit", "BadTruths", "BadTurnState", "BadTurning", "BadWholeEdit", "Broad", "CannotDeal", "CannotEdit", "CannotFollow", "LargeRow", "LongPaper", "LooksWithin", "NoDocument", "NoEvent", "NotOver", "NotSayable", "NothingDone", "NothingUndone", "TooGreat"]
def loose2 : List Str := ["Wide", "_law_begun", "_law_blended", "_law_draw", "_law_pick", "_law_k00_flags"]
def loose : List Str := loose0 ++ loose1 ++ loose2
abbrev R : PySem.W.OpenRow := PySem.W.OpenLaw.row PySem.Challenge.rw_sureleaves_k00_errors_apart
abbrev hk : PySem.W.Hook := hookN 5 fa fn tf ex
def ob (s : PySem.W.SharedT) : He.AlX × Bool := (He.obsX 5 fa fn [] tf ex (HandSHeadRun.getT s), thB (HandSHeadRun.getT s))
theorem ob_eq (s : PySem.W.SharedT) : ob s = hk.obs s.abs := obsN_eq (HandSHeadRun.getT_eq s)
abbrev KK (s : PySem.W.SharedT) : PySem.W.Frag := He.frT (HandSHeadRun.getT s) (He.asD (HandSHeadRun.getT s) 5)
noncomputable def endS (w : World) (os : OsState) : Option PySem.W.SharedT := HandSHeadRun.endF (HandSHeadRun.stepQ (HandSHeadRun.denQ HandSHeadRun.tabQ) R.prog w) 30000 R.prog w os
section
open PySem.W HandSHeadRun
theorem run1 (w : World) (os : OsState) : (endS w os).map (fun s => (looksF R.prog (boot_heap w.params) s.abs, seenQ (view R.prog [68]) loose (importedModules R.prog.main.body) (fun s => xlAt (view R.prog [68]) [] s && recOk R.toRowW.records s) s.abs)) = some (true, openGood (view R.prog [68]) loose) := by kernel_rfl
theorem run2 (w : World) (os : OsState) : (endS w os).map (fun s => (He.obsT fa fn [] (KK s), thB (getT s))) = some (He.valT fn [] w, true) := by kernel_rfl
theorem run3 (w : World) (os : OsState) : (endS w os).map (fun s => eqE (KK s) vcs && (kbOk (KK s) kb && (excOk (KK s) kcs && (decide ((tf.map fun p => (He.cT (KK s) p).2).Nodup) && He.tabsB (getT s) tf (KK s))))) = some true := by kernel_rfl
theorem run4 (w : World) (os : OsState) : (endS w os).map (fun s => excOk (KK s) vcs) = some true := by kernel_rfl
theorem run5 (w : World) (os : OsState) : (endS w os).map (fun s => vcs0.all fun c => (He.Fa.glo c).ok (KK s) && (He.Fa.exc c).ok (KK s)) = some true := by kernel_rfl
theorem run6 (w : World) (os : OsState) : (endS w os).map (fun s => vcs1.all fun p => (He.Fa.glo p.1).ok (KK s) && (iniB PySem.Challenge.pw_sureleaves_k00_errors_apart (KK s) p.1 p.2 && L2.xfB (KK s) (He.ga (KK s) p.1))) = some true := by kernel_rfl
end
theorem run (w : World) : HandSHeadRun.RunEq R (PySem.W.view R.prog [68]) hk ob 30000 loose w := by
  intro os
  obtain ⟨s, hs, e1⟩ := Option.map_eq_some_iff.mp (run1 w os)
  have a2 := run2 w os
  have a3 := run3 w os
  have a4 := run4 w os
  have a5 := run5 w os
  have a6 := run6 w os
  rw [hs] at a2 a3 a4 a5 a6
  have e2 := Option.some.inj a2
  have e3 := Option.some.inj a3
  have e4 : excOk (KK s) vcs = true := Option.some.inj a4
  have e5 : (vcs0.all fun c => (He.Fa.glo c).ok (KK s) && (He.Fa.exc c).ok (KK s)) = true := Option.some.inj a5
  have e6 : (vcs1.all fun p => (He.Fa.glo p.1).ok (KK s) && (iniB PySem.Challenge.pw_sureleaves_k00_errors_apart (KK s) p.1 p.2 && L2.xfB (KK s) (He.ga (KK s) p.1))) = true := Option.some.inj a6
  have q1 := congrArg Prod.fst e1
  have q2 := congrArg Prod.snd e1
  have q3 := congrArg Prod.fst e2
  have q4 := congrArg Prod.snd e2
  obtain ⟨b1, b2⟩ := He.ba e3
  obtain ⟨b3, b4⟩ := He.ba b2
  obtain ⟨b5, b6⟩ := He.ba b4
  obtain ⟨b7, b8⟩ := He.ba b6
  have hx : (ex (KK s) && He.tabsB (HandSHeadRun.getT s) tf (KK s)) = true := by
    unfold ex exV
    rw [b3, b5, b7, b1, e4, e5, e6, b8]
    rfl
  have ho : ob s = hk.val w := by
    show ((He.obsT fa fn [] (KK s), ex (KK s) && He.tabsB (HandSHeadRun.getT s) tf (KK s)), thB (HandSHeadRun.getT s)) = ((He.valT fn [] w, true), true)
    rw [hx]
    exact Prod.ext (Prod.ext q3 rfl) q4
  show (endS w os).map _ = _
  rw [hs]
  show some (_, _, ob s) = _
  rw [ho]
  exact congrArg some (Prod.ext q1 (Prod.ext q2 rfl))
end K00

namespace K00
open PySem PySem.Spec PyProof.Rows L2 LamX DL
structure Fx (w : World) (K : PySem.W.Frag) (mg : Str → Option Value) (base : Heap) : Prop where
  f_w_begun : ∃ fd, FunD K "_law_begun" "_law_begun" (defArgs t_w_begun) (defBody t_w_begun) (defScope t_w_begun) [] [] (He.ga K "_law_begun") fd
  m_w_begun : mg "_law_begun" = some (.ref (He.ga K "_law_begun"))
  f_w_blended : ∃ fd, FunD K "_law_blended" "_law_blended" (defArgs t_w_blended) (defBody t_w_blended) (defScope t_w_blended) [] [] (He.ga K "_law_blended") fd
  m_w_blended : mg "_law_blended" = some (.ref (He.ga K "_law_blended"))
  f_w_draw : ∃ fd, FunD K "_law_draw" "_law_draw" (defArgs t_w_draw) (defBody t_w_draw) (defScope t_w_draw) [] [] (He.ga K "_law_draw") fd
  m_w_draw : mg "_law_draw" = some (.ref (He.ga K "_law_draw"))
  f_w_pick : ∃ fd, FunD K "_law_pick" "_law_pick" (defArgs t_w_pick) (defBody t_w_pick) (defScope t_w_pick) [] [] (He.ga K "_law_pick") fd
  m_w_pick : mg "_law_pick" = some (.ref (He.ga K "_law_pick"))
  f_w_k00_flags : ∃ fd, FunD K "_law_k00_flags" "_law_k00_flags" (defArgs t_w_k00_flags) (defBody t_w_k00_flags) (defScope t_w_k00_flags) [] [] (He.ga K "_law_k00_flags") fd
  m_w_k00_flags : mg "_law_k00_flags" = some (.ref (He.ga K "_law_k00_flags"))
  f_law : ∃ fd, FunD K "law" "law" (defArgs t_law) (defBody t_law) (defScope t_law) [] [] (He.ga K "law") fd
  m_law : mg "law" = some (.ref (He.ga K "law"))
  m_LeafError : mg "LeafError" = some (.ref (He.ga K "LeafError"))
  n_ValueError : mg "ValueError" = none
  n_abs : mg "abs" = none
  n_enumerate : mg "enumerate" = none
  n_int : mg "int" = none
  n_isinstance : mg "isinstance" = none
  n_len : mg "len" = none
  n_min : mg "min" = none
  n_range : mg "range" = none
  n_repr : mg "repr" = none
  n_super : mg "super" = none
  nt : NoThird base
  eqE : eqE K vcs = true
  xcE : excOk K vcs = true
  v0 : ∀ c ∈ vcs0, mg c = some (.ref (He.ga K c)) ∧ PySem.W.excIn K (He.ga K c) He.veBase "ValueError.__new__" = true ∧ PySem.W.keepIn K (.ref (He.ga K c)) = true
  v1 : ∀ p ∈ vcs1, mg p.1 = some (.ref (He.ga K p.1)) ∧ IniF PySem.Challenge.pw_sureleaves_k00_errors_apart K (He.ga K p.1) p.2 ∧ L2.XfC K (He.ga K p.1)
  kb : kbOk K kb = true
  xc : excOk K kcs = true
  isx : ∀ c, isx c = true → PySem.W.exmOne K (.ref (He.ga K c)) (.ref (He.ga K "LeafError")) = some true
section
variable {w : World} {K : PySem.W.Frag} {mg : Str → Option Value} {base : Heap}
abbrev Pr : Program := PySem.Challenge.pw_sureleaves_k00_errors_apart
theorem r_w_blended (fx : Fx w K mg base)  : Cal Pr w K mg base "_law_blended" 1 ["state"] (PD (TT K)) (runB 6 gBlended) := by
  obtain ⟨fd, F⟩ := fx.f_w_blended
  exact cal_of (N := ["state", "turn", "found", "prime", "blend", "cell"]) (g := gBlended) F fx.m_w_blended sc_w_blended rfl (fun cdv ecd A outer s H E hr tk => (sd_cons (sd_par (i := 1) (j := 2) rfl sc_w_blended.nd rfl rfl (by decide) rfl rfl (ad_cons (pd_op op_addA op2_add (pd_stI (f := Om.turn) (i := 0) (units1 hr.units) dkv_turn) pd_int) (ad_cons pd_int ad_nil))) (sd_cons (sd_stI (f := setT) (i := 0) (units1 hr.units) dkv_putT (fun _ _ => rfl) (fun _ _ => rfl) (pd_var 1)) (sd_cons (sd_for (passes_of rfl) rfl (id_any (pd_lst (ad_cons pd_int (ad_cons pd_int (ad_cons pd_int ad_nil))))) (gd_name (i := 3) sc_w_blended.nd rfl (by first | exact .inl rfl | exact .inr rfl)) (sd_cons (sd_set (i := 4) sc_w_blended.nd rfl (by first | exact .inl rfl | exact .inr rfl) (pd_op op_addA op2_add (pd_op c_mul o_mulA pd_int (pd_var 1)) (pd_op op_fdiv o_div (pd_var 3) pd_int))) (sd_cons (sd_forC (i := 0) (passes_of rfl) rfl hr.units (gd_name (i := 5) sc_w_blended.nd rfl (by first | exact .inl rfl | exact .inr rfl)) (sd_one (sd_set (i := 4) sc_w_blended.nd rfl (by first | exact .inl rfl | exact .inr rfl) (pd_op op_mod o_mod (pd_callTy c_int o_int fx.n_int (by decide +kernel) (ad_cons (pd_op op_addA op2_add (pd_op op_addA op2_add (pd_op c_mul o_mulA (pd_var 4) pd_int) (pd_var 5)) (pd_var 1)) ad_nil)) (pd_var 3))))) (sd_one (sd_set (i := 2) sc_w_blended.nd rfl (by first | exact .inl rfl | exact .inr rfl) (pd_op op_addA op2_add (pd_op c_mul o_mulA (pd_var 2) pd_int) (pd_op op_mod o_mod (pd_callTy c_int o_int fx.n_int (by decide +kernel) (ad_cons (pd_op op_pow o_pow (pd_var 4) pd_int) ad_nil)) (pd_var 3)))))))) (sd_one (sd_ret (pd_var 2))))))) (fun _ _ _ _ _ _ us hl => match us, hl with | [_], _ => rfl)
theorem r_w_draw (fx : Fx w K mg base) (h_w_blended : Cal Pr w K mg base "_law_blended" 1 ["state"] (PD (TT K)) blendF) : Cal Pr w K mg base "_law_draw" 2 ["state", "size_here"] (PD (TT K)) (runB 3 (gDraw blendF)) := by
  obtain ⟨fd, F⟩ := fx.f_w_draw
  exact cal_of (N := ["state", "size_here", "found"]) (g := (gDraw blendF)) F fx.m_w_draw sc_w_draw rfl (fun cdv ecd A outer s H E hr tk => (sd_cons (sd_if (td_cmp (c_eq hr.units) o_eq (by first | exact nobehind _ (by decide) (by decide) | rfl) (pd_stI (f := Om.left) (i := 0) (units1 hr.units) dkv_left) pd_int) (sd_one (sd_stI (f := setL) (i := 0) (units1 hr.units) dkv_putL (fun _ _ => rfl) (fun _ _ => rfl) (pd_if (td_great (i := 0) hr.units) (pd_pop (i := 0) hr.units) (pd_cal (ps := ["state"]) h_w_blended (hr.mono (by decide)) tk (LenA.cons LenA.nil) (ad_cons (pd_var 0) ad_nil))))) sd_nil) (sd_cons (sd_set (i := 2) sc_w_draw.nd rfl (by first | exact .inl rfl | exact .inr rfl) (pd_op op_mod o_mod (pd_callTy c_int o_int fx.n_int (by decide +kernel) (ad_cons (pd_stI (f := Om.left) (i := 0) (units1 hr.units) dkv_left) ad_nil)) (pd_var 1))) (sd_cons (sd_stI (f := setL) (i := 0) (units1 hr.units) dkv_putL (fun _ _ => rfl) (fun _ _ => rfl) (pd_op op_fdiv o_div (pd_stI (f := Om.left) (i := 0) (units1 hr.units) dkv_left) (pd_var 1))) (sd_one (sd_ret (pd_var 2))))))) (fun _ _ _ _ _ _ us hl => match us, hl with | [_, _], _ => rfl)
theorem r_w_pick (fx : Fx w K mg base) (h_w_draw : Cal Pr w K mg base "_law_draw" 2 ["state", "size_here"] (PD (TT K)) drawF) : Cal Pr w K mg base "_law_pick" 3 ["state", "several"] (PD (TT K)) (runB 2 (gPick drawF)) := by
  obtain ⟨fd, F⟩ := fx.f_w_pick
  exact cal_of (N := ["state", "several"]) (g := (gPick drawF)) F fx.m_w_pick sc_w_pick rfl (fun cdv ecd A outer s H E hr tk => (sd_one (sd_ret (pd_ix ix_seq op2_ix (pd_var 1) (pd_cal (ps := ["state", "size_here"]) h_w_draw (hr.mono (by decide)) tk (LenA.cons (LenA.cons LenA.nil)) (ad_cons (pd_var 0) (ad_cons (pd_callB call_len opn_len fx.n_len (by decide +kernel) (ad_cons (pd_var 1) ad_nil)) ad_nil))))))) (fun _ _ _ _ _ _ us hl => match us, hl with | [_, _], _ => rfl)
def g_w_k00_flags : EvS := (sSeq (sSet 1 (eOpN gLst (aCons (eOpN (gIsE vcs) (aCons (eVar 0) (aCons (eC (.glo "BadAsks")) aNil))) (aCons (eOpN (gIsE vcs) (aCons (eVar 0) (aCons (eC (.glo "BadAxis")) aNil))) (aCons (eOpN (gIsE vcs) (aCons (eVar 0) (aCons (eC (.glo "BadBits")) aNil))) (aCons (eOpN (gIsE vcs) (aCons (eVar 0) (aCons (eC (.glo "BadBush")) aNil))) aNil)))))) (sSeq (sSet 1 (eOp2 gAdd (eVar 1) (eOpN gLst (aCons (eOpN (gIsE vcs) (aCons (eVar 0) (aCons (eC (.glo "BadCase")) aNil))) (aCons (eOpN (gIsE vcs) (aCons (eVar 0) (aCons (eC (.glo "BadContent")) aNil))) (aCons (eOpN (gIsE vcs) (aCons (eVar 0) (aCons (eC (.glo "BadDeal")) aNil))) (aCons (eOpN (gIsE vcs) (aCons (eVar 0) (aCons (eC (.glo "BadDemands")) aNil))) aNil))))))) (sSeq (sSet 1 (eOp2 gAdd (eVar 1) (eOpN gLst (aCons (eOpN (gIsE vcs) (aCons (eVar 0) (aCons (eC (.glo "BadEvent")) aNil))) (aCons (eOpN (gIsE vcs) (aCons (eVar 0) (aCons (eC (.glo "BadEvents")) aNil))) (aCons (eOpN (gIsE vcs) (aCons (eVar 0) (aCons (eC (.glo "BadFilter")) aNil))) (aCons (eOpN (gIsE vcs) (aCons (eVar 0) (aCons (eC (.glo "BadFormula")) aNil))) aNil))))))) (sSeq (sSet 1 (eOp2 gAdd (eVar 1) (eOpN gLst (aCons (eOpN (gIsE vcs) (aCons (eVar 0) (aCons (eC (.glo "BadHistory")) aNil))) (aCons (eOpN (gIsE vcs) (aCons (eVar 0) (aCons (eC (.glo "BadLabel")) aNil))) (aCons (eOpN (gIsE vcs) (aCons (eVar 0) (aCons (eC (.glo "BadLine")) aNil))) (aCons (eOpN (gIsE vcs) (aCons (eVar 0) (aCons (eC (.glo "BadModules")) aNil))) aNil))))))) (sSeq (sSet 1 (eOp2 gAdd (eVar 1) (eOpN gLst (aCons (eOpN (gIsE vcs) (aCons (eVar 0) (aCons (eC (.glo "BadMoment")) aNil))) (aCons (eOpN (gIsE vcs) (aCons (eVar 0) (aCons (eC (.glo "BadName")) aNil))) (aCons (eOpN (gIsE vcs) (aCons (eVar 0) (aCons (eC (.glo "BadNumber")) aNil))) (aCons (eOpN (gIsE vcs) (aCons (eVar 0) (aCons (eC (.glo "BadNumbered")) aNil))) aNil))))))) (sSeq (sSet 1 (eOp2 gAdd (eVar 1) (eOpN gLst (aCons (eOpN (gIsE vcs) (aCons (eVar 0) (aCons (eC (.glo "BadPath")) aNil))) (aCons (eOpN (gIsE vcs) (aCons (eVar 0) (aCons (eC (.glo "BadPaths")) aNil))) (aCons (eOpN (gIsE vcs) (aCons (eVar 0) (aCons (eC (.glo "BadPlace")) aNil))) (aCons (eOpN (gIsE vcs) (aCons (eVar 0) (aCons (eC (.glo "BadProgramme")) aNil))) aNil))))))) (sSeq (sSet 1 (eOp2 gAdd (eVar 1) (eOpN gLst (aCons (eOpN (gIsE vcs) (aCons (eVar 0) (aCons (eC (.glo "BadQuestion")) aNil))) (aCons (eOpN (gIsE vcs) (aCons (eVar 0) (aCons (eC (.glo "BadRow")) aNil))) (aCons (eOpN (gIsE vcs) (aCons (eVar 0) (aCons (eC (.glo "BadRowOfBushes")) aNil))) (aCons (eOpN (gIsE vcs) (aCons (eVar 0) (aCons (eC (.glo "BadSchema")) aNil))) aNil))))))) (sSeq (sSet 1 (eOp2 gAdd (eVar 1) (eOpN gLst (aCons (eOpN (gIsE vcs) (aCons (eVar 0) (aCons (eC (.glo "BadShelf")) aNil))) (aCons (eOpN (gIsE vcs) (aCons (eVar 0) (aCons (eC (.glo "BadSigns")) aNil))) (aCons (eOpN (gIsE vcs) (aCons (eVar 0) (aCons (eC (.glo "BadSize")) aNil))) (aCons (eOpN (gIsE vcs) (aCons (eVar 0) (aCons (eC (.glo "BadStance")) aNil))) aNil))))))) (sSeq (sSet 1 (eOp2 gAdd (eVar 1) (eOpN gLst (aCons (eOpN (gIsE vcs) (aCons (eVar 0) (aCons (eC (.glo "BadStanding")) aNil))) (aCons (eOpN (gIsE vcs) (aCons (eVar 0) (aCons (eC (.glo "BadState")) aNil))) (aCons (eOpN (gIsE vcs) (aCons (eVar 0) (aCons (eC (.glo "BadStates")) aNil))) (aCons (eOpN (gIsE vcs) (aCons (eVar 0) (aCons (eC (.glo "BadSum")) aNil))) aNil))))))) (sSeq (sSet 1 (eOp2 gAdd (eVar 1) (eOpN gLst (aCons (eOpN (gIsE vcs) (aCons (eVar 0) (aCons (eC (.glo "BadTable")) aNil))) (aCons (eOpN (gIsE vcs) (aCons (eVar 0) (aCons (eC (.glo "BadTables")) aNil))) (aCons (eOpN (gIsE vcs) (aCons (eVar 0) (aCons (eC (.glo "BadThing")) aNil))) (aCons (eOpN (gIsE vcs) (aCons (eVar 0) (aCons (eC (.glo "BadTree")) aNil))) aNil))))))) (sSeq (sSet 1 (eOp2 gAdd (eVar 1) (eOpN gLst (aCons (eOpN (gIsE vcs) (aCons (eVar 0) (aCons (eC (.glo "BadTreeEdit")) aNil))) (aCons (eOpN (gIsE vcs) (aCons (eVar 0) (aCons (eC (.glo "BadTruths")) aNil))) (aCons (eOpN (gIsE vcs) (aCons (eVar 0) (aCons (eC (.glo "BadTurnState")) aNil))) (aCons (eOpN (gIsE vcs) (aCons (eVar 0) (aCons (eC (.glo "BadTurning")) aNil))) aNil))))))) (sSeq (sSet 1 (eOp2 gAdd (eVar 1) (eOpN gLst (aCons (eOpN (gIsE vcs) (aCons (eVar 0) (aCons (eC (.glo "BadWholeEdit")) aNil))) (aCons (eOpN (gIsE vcs) (aCons (eVar 0) (aCons (eC (.glo "Broad")) aNil))) (aCons (eOpN (gIsE vcs) (aCons (eVar 0) (aCons (eC (.glo "CannotDeal")) aNil))) (aCons (eOpN (gIsE vcs) (aCons (eVar 0) (aCons (eC (.glo "CannotEdit")) aNil))) aNil))))))) (sSeq (sSet 1 (eOp2 gAdd (eVar 1) (eOpN gLst (aCons (eOpN (gIsE vcs) (aCons (eVar 0) (aCons (eC (.glo "CannotFollow")) aNil))) (aCons (eOpN (gIsE vcs) (aCons (eVar 0) (aCons (eC (.glo "LargeRow")) aNil))) (aCons (eOpN (gIsE vcs) (aCons (eVar 0) (aCons (eC (.glo "LongPaper")) aNil))) (aCons (eOpN (gIsE vcs) (aCons (eVar 0) (aCons (eC (.glo "LooksWithin")) aNil))) aNil))))))) (sSeq (sSet 1 (eOp2 gAdd (eVar 1) (eOpN gLst (aCons (eOpN (gIsE vcs) (aCons (eVar 0) (aCons (eC (.glo "NoDocument")) aNil))) (aCons (eOpN (gIsE vcs) (aCons (eVar 0) (aCons (eC (.glo "NoEvent")) aNil))) (aCons (eOpN (gIsE vcs) (aCons (eVar 0) (aCons (eC (.glo "NotOver")) aNil))) (aCons (eOpN (gIsE vcs) (aCons (eVar 0) (aCons (eC (.glo "NotSayable")) aNil))) aNil))))))) (sRet (eOp2 gAdd (eVar 1) (eOpN gLst (aCons (eOpN (gIsE vcs) (aCons (eVar 0) (aCons (eC (.glo "NothingDone")) aNil))) (aCons (eOpN (gIsE vcs) (aCons (eVar 0) (aCons (eC (.glo "NothingUndone")) aNil))) (aCons (eOpN (gIsE vcs) (aCons (eVar 0) (aCons (eC (.glo "TooGreat")) aNil))) (aCons (eOpN (gIsE vcs) (aCons (eVar 0) (aCons (eC (.glo "Wide")) aNil))) aNil)))))))))))))))))))))
theorem r_w_k00_flags (fx : Fx w K mg base)  : Cal Pr w K mg base "_law_k00_flags" 1 ["error"] (PD (TT K)) (runB 2 g_w_k00_flags) := by
  obtain ⟨fd, F⟩ := fx.f_w_k00_flags
  exact cal_of (N := ["error", "found"]) (g := g_w_k00_flags) F fx.m_w_k00_flags sc_w_k00_flags rfl (fun cdv ecd A outer s H E hr tk => (sd_cons (sd_set (i := 1) sc_w_k00_flags.nd rfl (by first | exact .inl rfl | exact .inr rfl) (pd_lst (ad_cons (pd_callB call_isO (o_isE fx.eqE fx.xcE le_in) fx.n_isinstance (by decide +kernel) (ad_cons (pd_var 0) (ad_cons (pd_own (fx.v0 _ v_BadAsks).1) ad_nil))) (ad_cons (pd_callB call_isO (o_isE fx.eqE fx.xcE le_in) fx.n_isinstance (by decide +kernel) (ad_cons (pd_var 0) (ad_cons (pd_own (fx.v0 _ v_BadAxis).1) ad_nil))) (ad_cons (pd_callB call_isO (o_isE fx.eqE fx.xcE le_in) fx.n_isinstance (by decide +kernel) (ad_cons (pd_var 0) (ad_cons (pd_own (fx.v0 _ v_BadBits).1) ad_nil))) (ad_cons (pd_callB call_isO (o_isE fx.eqE fx.xcE le_in) fx.n_isinstance (by decide +kernel) (ad_cons (pd_var 0) (ad_cons (pd_own (fx.v0 _ v_BadBush).1) ad_nil))) ad_nil)))))) (sd_cons (sd_set (i := 1) sc_w_k00_flags.nd rfl (by first | exact .inl rfl | exact .inr rfl) (pd_op op_addA op2_add (pd_var 1) (pd_lst (ad_cons (pd_callB call_isO (o_isE fx.eqE fx.xcE le_in) fx.n_isinstance (by decide +kernel) (ad_cons (pd_var 0) (ad_cons (pd_own (fx.v0 _ v_BadCase).1) ad_nil))) (ad_cons (pd_callB call_isO (o_isE fx.eqE fx.xcE le_in) fx.n_isinstance (by decide +kernel) (ad_cons (pd_var 0) (ad_cons (pd_own (fx.v0 _ v_BadContent).1) ad_nil))) (ad_cons (pd_callB call_isO (o_isE fx.eqE fx.xcE le_in) fx.n_isinstance (by decide +kernel) (ad_cons (pd_var 0) (ad_cons (pd_own (fx.v0 _ v_BadDeal).1) ad_nil))) (ad_cons (pd_callB call_isO (o_isE fx.eqE fx.xcE le_in) fx.n_isinstance (by decide +kernel) (ad_cons (pd_var 0) (ad_cons (pd_own (fx.v0 _ v_BadDemands).1) ad_nil))) ad_nil))))))) (sd_cons (sd_set (i := 1) sc_w_k00_flags.nd rfl (by first | exact .inl rfl | exact .inr rfl) (pd_op op_addA op2_add (pd_var 1) (pd_lst (ad_cons (pd_callB call_isO (o_isE fx.eqE fx.xcE le_in) fx.n_isinstance (by decide +kernel) (ad_cons (pd_var 0) (ad_cons (pd_own (fx.v0 _ v_BadEvent).1) ad_nil))) (ad_cons (pd_callB call_isO (o_isE fx.eqE fx.xcE le_in) fx.n_isinstance (by decide +kernel) (ad_cons (pd_var 0) (ad_cons (pd_own (fx.v1 _ v_BadEvents).1) ad_nil))) (ad_cons (pd_callB call_isO (o_isE fx.eqE fx.xcE le_in) fx.n_isinstance (by decide +kernel) (ad_cons (pd_var 0) (ad_cons (pd_own (fx.v0 _ v_BadFilter).1) ad_nil))) (ad_cons (pd_callB call_isO (o_isE fx.eqE fx.xcE le_in) fx.n_isinstance (by decide +kernel) (ad_cons (pd_var 0) (ad_cons (pd_own (fx.v0 _ v_BadFormula).1) ad_nil))) ad_nil))))))) (sd_cons (sd_set (i := 1) sc_w_k00_flags.nd rfl (by first | exact .inl rfl | exact .inr rfl) (pd_op op_addA op2_add (pd_var 1) (pd_lst (ad_cons (pd_callB call_isO (o_isE fx.eqE fx.xcE le_in) fx.n_isinstance (by decide +kernel) (ad_cons (pd_var 0) (ad_cons (pd_own (fx.v0 _ v_BadHistory).1) ad_nil))) (ad_cons (pd_callB call_isO (o_isE fx.eqE fx.xcE le_in) fx.n_isinstance (by decide +kernel) (ad_cons (pd_var 0) (ad_cons (pd_own (fx.v0 _ v_BadLabel).1) ad_nil))) (ad_cons (pd_callB call_isO (o_isE fx.eqE fx.xcE le_in) fx.n_isinstance (by decide +kernel) (ad_cons (pd_var 0) (ad_cons (pd_own (fx.v1 _ v_BadLine).1) ad_nil))) (ad_cons (pd_callB call_isO (o_isE fx.eqE fx.xcE le_in) fx.n_isinstance (by decide +kernel) (ad_cons (pd_var 0) (ad_cons (pd_own (fx.v1 _ v_BadModules).1) ad_nil))) ad_nil))))))) (sd_cons (sd_set (i := 1) sc_w_k00_flags.nd rfl (by first | exact .inl rfl | exact .inr rfl) (pd_op op_addA op2_add (pd_var 1) (pd_lst (ad_cons (pd_callB call_isO (o_isE fx.eqE fx.xcE le_in) fx.n_isinstance (by decide +kernel) (ad_cons (pd_var 0) (ad_cons (pd_own (fx.v0 _ v_BadMoment).1) ad_nil))) (ad_cons (pd_callB call_isO (o_isE fx.eqE fx.xcE le_in) fx.n_isinstance (by decide +kernel) (ad_cons (pd_var 0) (ad_cons (pd_own (fx.v0 _ v_BadName).1) ad_nil))) (ad_cons (pd_callB call_isO (o_isE fx.eqE fx.xcE le_in) fx.n_isinstance (by decide +kernel) (ad_cons (pd_var 0) (ad_cons (pd_own (fx.v0 _ v_BadNumber).1) ad_nil))) (ad_cons (pd_callB call_isO (o_isE fx.eqE fx.xcE le_in) fx.n_isinstance (by decide +kernel) (ad_cons (pd_var 0) (ad_cons (pd_own (fx.v0 _ v_BadNumbered).1) ad_nil))) ad_nil))))))) (sd_cons (sd_set (i := 1) sc_w_k00_flags.nd rfl (by first | exact .inl rfl | exact .inr rfl) (pd_op op_addA op2_add (pd_var 1) (pd_lst (ad_cons (pd_callB call_isO (o_isE fx.eqE fx.xcE le_in) fx.n_isinstance (by decide +kernel) (ad_cons (pd_var 0) (ad_cons (pd_own (fx.v0 _ v_BadPath).1) ad_nil))) (ad_cons (pd_callB call_isO (o_isE fx.eqE fx.xcE le_in) fx.n_isinstance (by decide +kernel) (ad_cons (pd_var 0) (ad_cons (pd_own (fx.v0 _ v_BadPaths).1) ad_nil))) (ad_cons (pd_callB call_isO (o_isE fx.eqE fx.xcE le_in) fx.n_isinstance (by decide +kernel) (ad_cons (pd_var 0) (ad_cons (pd_own (fx.v0 _ v_BadPlace).1) ad_nil))) (ad_cons (pd_callB call_isO (o_isE fx.eqE fx.xcE le_in) fx.n_isinstance (by decide +kernel) (ad_cons (pd_var 0) (ad_cons (pd_own (fx.v0 _ v_BadProgramme).1) ad_nil))) ad_nil))))))) (sd_cons (sd_set (i := 1) sc_w_k00_flags.nd rfl (by first | exact .inl rfl | exact .inr rfl) (pd_op op_addA op2_add (pd_var 1) (pd_lst (ad_cons (pd_callB call_isO (o_isE fx.eqE fx.xcE le_in) fx.n_isinstance (by decide +kernel) (ad_cons (pd_var 0) (ad_cons (pd_own (fx.v0 _ v_BadQuestion).1) ad_nil))) (ad_cons (pd_callB call_isO (o_isE fx.eqE fx.xcE le_in) fx.n_isinstance (by decide +kernel) (ad_cons (pd_var 0) (ad_cons (pd_own (fx.v0 _ v_BadRow).1) ad_nil))) (ad_cons (pd_callB call_isO (o_isE fx.eqE fx.xcE le_in) fx.n_isinstance (by decide +kernel) (ad_cons (pd_var 0) (ad_cons (pd_own (fx.v0 _ v_BadRowOfBushes).1) ad_nil))) (ad_cons (pd_callB call_isO (o_isE fx.eqE fx.xcE le_in) fx.n_isinstance (by decide +kernel) (ad_cons (pd_var 0) (ad_cons (pd_own (fx.v0 _ v_BadSchema).1) ad_nil))) ad_nil))))))) (sd_cons (sd_set (i := 1) sc_w_k00_flags.nd rfl (by first | exact .inl rfl | exact .inr rfl) (pd_op op_addA op2_add (pd_var 1) (pd_lst (ad_cons (pd_callB call_isO (o_isE fx.eqE fx.xcE le_in) fx.n_isinstance (by decide +kernel) (ad_cons (pd_var 0) (ad_cons (pd_own (fx.v0 _ v_BadShelf).1) ad_nil))) (ad_cons (pd_callB call_isO (o_isE fx.eqE fx.xcE le_in) fx.n_isinstance (by decide +kernel) (ad_cons (pd_var 0) (ad_cons (pd_own (fx.v1 _ v_BadSigns).1) ad_nil))) (ad_cons (pd_callB call_isO (o_isE fx.eqE fx.xcE le_in) fx.n_isinstance (by decide +kernel) (ad_cons (pd_var 0) (ad_cons (pd_own (fx.v0 _ v_BadSize).1) ad_nil))) (ad_cons (pd_callB call_isO (o_isE fx.eqE fx.xcE le_in) fx.n_isinstance (by decide +kernel) (ad_cons (pd_var 0) (ad_cons (pd_own (fx.v0 _ v_BadStance).1) ad_nil))) ad_nil))))))) (sd_cons (sd_set (i := 1) sc_w_k00_flags.nd rfl (by first | exact .inl rfl | exact .inr rfl) (pd_op op_addA op2_add (pd_var 1) (pd_lst (ad_cons (pd_callB call_isO (o_isE fx.eqE fx.xcE le_in) fx.n_isinstance (by decide +kernel) (ad_cons (pd_var 0) (ad_cons (pd_own (fx.v0 _ v_BadStanding).1) ad_nil))) (ad_cons (pd_callB call_isO (o_isE fx.eqE fx.xcE le_in) fx.n_isinstance (by decide +kernel) (ad_cons (pd_var 0) (ad_cons (pd_own (fx.v0 _ v_BadState).1) ad_nil))) (ad_cons (pd_callB call_isO (o_isE fx.eqE fx.xcE le_in) fx.n_isinstance (by decide +kernel) (ad_cons (pd_var 0) (ad_cons (pd_own (fx.v0 _ v_BadStates).1) ad_nil))) (ad_cons (pd_callB call_isO (o_isE fx.eqE fx.xcE le_in) fx.n_isinstance (by decide +kernel) (ad_cons (pd_var 0) (ad_cons (pd_own (fx.v0 _ v_BadSum).1) ad_nil))) ad_nil))))))) (sd_cons (sd_set (i := 1) sc_w_k00_flags.nd rfl (by first | exact .inl rfl | exact .inr rfl) (pd_op op_addA op2_add (pd_var 1) (pd_lst (ad_cons (pd_callB call_isO (o_isE fx.eqE fx.xcE le_in) fx.n_isinstance (by decide +kernel) (ad_cons (pd_var 0) (ad_cons (pd_own (fx.v0 _ v_BadTable).1) ad_nil))) (ad_cons (pd_callB call_isO (o_isE fx.eqE fx.xcE le_in) fx.n_isinstance (by decide +kernel) (ad_cons (pd_var 0) (ad_cons (pd_own (fx.v0 _ v_BadTables).1) ad_nil))) (ad_cons (pd_callB call_isO (o_isE fx.eqE fx.xcE le_in) fx.n_isinstance (by decide +kernel) (ad_cons (pd_var 0) (ad_cons (pd_own (fx.v0 _ v_BadThing).1) ad_nil))) (ad_cons (pd_callB call_isO (o_isE fx.eqE fx.xcE le_in) fx.n_isinstance (by decide +kernel) (ad_cons (pd_var 0) (ad_cons (pd_own (fx.v0 _ v_BadTree).1) ad_nil))) ad_nil))))))) (sd_cons (sd_set (i := 1) sc_w_k00_flags.nd rfl (by first | exact .inl rfl | exact .inr rfl) (pd_op op_addA op2_add (pd_var 1) (pd_lst (ad_cons (pd_callB call_isO (o_isE fx.eqE fx.xcE le_in) fx.n_isinstance (by decide +kernel) (ad_cons (pd_var 0) (ad_cons (pd_own (fx.v0 _ v_BadTreeEdit).1) ad_nil))) (ad_cons (pd_callB call_isO (o_isE fx.eqE fx.xcE le_in) fx.n_isinstance (by decide +kernel) (ad_cons (pd_var 0) (ad_cons (pd_own (fx.v0 _ v_BadTruths).1) ad_nil))) (ad_cons (pd_callB call_isO (o_isE fx.eqE fx.xcE le_in) fx.n_isinstance (by decide +kernel) (ad_cons (pd_var 0) (ad_cons (pd_own (fx.v0 _ v_BadTurnState).1) ad_nil))) (ad_cons (pd_callB call_isO (o_isE fx.eqE fx.xcE le_in) fx.n_isinstance (by decide +kernel) (ad_cons (pd_var 0) (ad_cons (pd_own (fx.v0 _ v_BadTurning).1) ad_nil))) ad_nil))))))) (sd_cons (sd_set (i := 1) sc_w_k00_flags.nd rfl (by first | exact .inl rfl | exact .inr rfl) (pd_op op_addA op2_add (pd_var 1) (pd_lst (ad_cons (pd_callB call_isO (o_isE fx.eqE fx.xcE le_in) fx.n_isinstance (by decide +kernel) (ad_cons (pd_var 0) (ad_cons (pd_own (fx.v0 _ v_BadWholeEdit).1) ad_nil))) (ad_cons (pd_callB call_isO (o_isE fx.eqE fx.xcE le_in) fx.n_isinstance (by decide +kernel) (ad_cons (pd_var 0) (ad_cons (pd_own (fx.v0 _ v_Broad).1) ad_nil))) (ad_cons (pd_callB call_isO (o_isE fx.eqE fx.xcE le_in) fx.n_isinstance (by decide +kernel) (ad_cons (pd_var 0) (ad_cons (pd_own (fx.v1 _ v_CannotDeal).1) ad_nil))) (ad_cons (pd_callB call_isO (o_isE fx.eqE fx.xcE le_in) fx.n_isinstance (by decide +kernel) (ad_cons (pd_var 0) (ad_cons (pd_own (fx.v1 _ v_CannotEdit).1) ad_nil))) ad_nil))))))) (sd_cons (sd_set (i := 1) sc_w_k00_flags.nd rfl (by first | exact .inl rfl | exact .inr rfl) (pd_op op_addA op2_add (pd_var 1) (pd_lst (ad_cons (pd_callB call_isO (o_isE fx.eqE fx.xcE le_in) fx.n_isinstance (by decide +kernel) (ad_cons (pd_var 0) (ad_cons (pd_own (fx.v1 _ v_CannotFollow).1) ad_nil))) (ad_cons (pd_callB call_isO (o_isE fx.eqE fx.xcE le_in) fx.n_isinstance (by decide +kernel) (ad_cons (pd_var 0) (ad_cons (pd_own (fx.v0 _ v_LargeRow).1) ad_nil))) (ad_cons (pd_callB call_isO (o_isE fx.eqE fx.xcE le_in) fx.n_isinstance (by decide +kernel) (ad_cons (pd_var 0) (ad_cons (pd_own (fx.v1 _ v_LongPaper).1) ad_nil))) (ad_cons (pd_callB call_isO (o_isE fx.eqE fx.xcE le_in) fx.n_isinstance (by decide +kernel) (ad_cons (pd_var 0) (ad_cons (pd_own (fx.v0 _ v_LooksWithin).1) ad_nil))) ad_nil))))))) (sd_cons (sd_set (i := 1) sc_w_k00_flags.nd rfl (by first | exact .inl rfl | exact .inr rfl) (pd_op op_addA op2_add (pd_var 1) (pd_lst (ad_cons (pd_callB call_isO (o_isE fx.eqE fx.xcE le_in) fx.n_isinstance (by decide +kernel) (ad_cons (pd_var 0) (ad_cons (pd_own (fx.v0 _ v_NoDocument).1) ad_nil))) (ad_cons (pd_callB call_isO (o_isE fx.eqE fx.xcE le_in) fx.n_isinstance (by decide +kernel) (ad_cons (pd_var 0) (ad_cons (pd_own (fx.v1 _ v_NoEvent).1) ad_nil))) (ad_cons (pd_callB call_isO (o_isE fx.eqE fx.xcE le_in) fx.n_isinstance (by decide +kernel) (ad_cons (pd_var 0) (ad_cons (pd_own (fx.v0 _ v_NotOver).1) ad_nil))) (ad_cons (pd_callB call_isO (o_isE fx.eqE fx.xcE le_in) fx.n_isinstance (by decide +kernel) (ad_cons (pd_var 0) (ad_cons (pd_own (fx.v0 _ v_NotSayable).1) ad_nil))) ad_nil))))))) (sd_one (sd_ret (pd_op op_addA op2_add (pd_var 1) (pd_lst (ad_cons (pd_callB call_isO (o_isE fx.eqE fx.xcE le_in) fx.n_isinstance (by decide +kernel) (ad_cons (pd_var 0) (ad_cons (pd_own (fx.v0 _ v_NothingDone).1) ad_nil))) (ad_cons (pd_callB call_isO (o_isE fx.eqE fx.xcE le_in) fx.n_isinstance (by decide +kernel) (ad_cons (pd_var 0) (ad_cons (pd_own (fx.v0 _ v_NothingUndone).1) ad_nil))) (ad_cons (pd_callB call_isO (o_isE fx.eqE fx.xcE le_in) fx.n_isinstance (by decide +kernel) (ad_cons (pd_var 0) (ad_cons (pd_own (fx.v0 _ v_TooGreat).1) ad_nil))) (ad_cons (pd_callB call_isO (o_isE fx.eqE fx.xcE le_in) fx.n_isinstance (by decide +kernel) (ad_cons (pd_var 0) (ad_cons (pd_own (fx.v0 _ v_Wide).1) ad_nil))) ad_nil))))))))))))))))))))))) (fun _ _ _ _ _ _ us hl => match us, hl with | [_], _ => rfl)
def g_law : EvS := (sSeq (sFor (iRange (aCons (eOp2 gAdd (eC (.int 1)) (eOpN gMin2 (aCons (eOpN gLen (aCons (eVar 0) aNil)) (aCons (eC (.int 3)) aNil)))) aNil)) (gdName 2) (sSeq (sPar3 3 4 5 (aCons (eCall pickF (aCons (eVar 1) (aCons (eOpN gLst (aCons (eC (.str "")) (aCons (eC (.str "a")) (aCons (eC (.str "no row")) aNil)))) aNil))) (aCons (eCall drawF (aCons (eVar 1) (aCons (eC (.int 100)) aNil))) (aCons (eCall drawF (aCons (eVar 1) (aCons (eC (.int 100)) aNil))) aNil)))) (sSeq (sSet 6 (eOpN gLst (aCons (eOpN (gEx0 "BadAsks") (aCons (eVar 3) aNil)) (aCons (eOpN (gEx0 "BadAxis") (aCons (eVar 3) aNil)) (aCons (eOpN (gEx0 "BadBits") (aCons (eVar 3) aNil)) (aCons (eOpN (gEx0 "BadBush") (aCons (eVar 3) aNil)) (aCons (eOpN (gEx0 "BadCase") (aCons (eVar 3) aNil)) (aCons (eOpN (gEx0 "BadContent") (aCons (eVar 3) aNil)) aNil)))))))) (sSeq (sSet 6 (eOp2 gAdd (eVar 6) (eOpN gLst (aCons (eOpN (gEx0 "BadDeal") (aCons (eVar 3) aNil)) (aCons (eOpN (gEx0 "BadDemands") (aCons (eVar 3) aNil)) (aCons (eOpN (gEx0 "BadEvent") (aCons (eVar 3) aNil)) (aCons (eOpN (gEx1 "BadEvents" "number") (aCons (eVar 4) aNil)) (aCons (eOpN (gEx0 "BadFilter") (aCons (eVar 3) aNil)) (aCons (eOpN (gEx0 "BadFormula") (aCons (eVar 3) aNil)) aNil))))))))) (sSeq (sSet 6 (eOp2 gAdd (eVar 6) (eOpN gLst (aCons (eOpN (gEx0 "BadHistory") (aCons (eVar 3) aNil)) (aCons (eOpN (gEx0 "BadLabel") (aCons (eVar 3) aNil)) (aCons (eOpN (gEx1 "BadLine" "number") (aCons (eVar 4) aNil)) (aCons (eOpN (gEx1 "BadModules" "fault") (aCons (eVar 4) aNil)) (aCons (eOpN (gEx0 "BadMoment") (aCons (eVar 3) aNil)) (aCons (eOpN (gEx0 "BadName") (aCons (eVar 3) aNil)) aNil))))))))) (sSeq (sSet 6 (eOp2 gAdd (eVar 6) (eOpN gLst (aCons (eOpN (gEx0 "BadNumber") (aCons (eVar 3) aNil)) (aCons (eOpN (gEx0 "BadNumbered") (aCons (eVar 3) aNil)) (aCons (eOpN (gEx0 "BadPath") (aCons (eVar 3) aNil)) (aCons (eOpN (gEx0 "BadPaths") (aCons (eVar 3) aNil)) (aCons (eOpN (gEx0 "BadPlace") (aCons (eVar 3) aNil)) (aCons (eOpN (gEx0 "BadProgramme") (aCons (eVar 3) aNil)) aNil))))))))) (sSeq (sSet 6 (eOp2 gAdd (eVar 6) (eOpN gLst (aCons (eOpN (gEx0 "BadQuestion") (aCons (eVar 3) aNil)) (aCons (eOpN (gEx0 "BadRow") (aCons (eVar 3) aNil)) (aCons (eOpN (gEx0 "BadRowOfBushes") (aCons (eVar 3) aNil)) (aCons (eOpN (gEx0 "BadSchema") (aCons (eVar 3) aNil)) (aCons (eOpN (gEx0 "BadShelf") (aCons (eVar 3) aNil)) (aCons (eOpN (gEx1 "BadSigns" "at") (aCons (eVar 4) aNil)) aNil))))))))) (sSeq (sSet 6 (eOp2 gAdd (eVar 6) (eOpN gLst (aCons (eOpN (gEx0 "BadSize") (aCons (eVar 3) aNil)) (aCons (eOpN (gEx0 "BadStance") (aCons (eVar 3) aNil)) (aCons (eOpN (gEx0 "BadStanding") (aCons (eVar 3) aNil)) (aCons (eOpN (gEx0 "BadState") (aCons (eVar 3) aNil)) (aCons (eOpN (gEx0 "BadStates") (aCons (eVar 3) aNil)) (aCons (eOpN (gEx0 "BadSum") (aCons (eVar 3) aNil)) aNil))))))))) (sSeq (sSet 6 (eOp2 gAdd (eVar 6) (eOpN gLst (aCons (eOpN (gEx0 "BadTable") (aCons (eVar 3) aNil)) (aCons (eOpN (gEx0 "BadTables") (aCons (eVar 3) aNil)) (aCons (eOpN (gEx0 "BadThing") (aCons (eVar 3) aNil)) (aCons (eOpN (gEx0 "BadTree") (aCons (eVar 3) aNil)) (aCons (eOpN (gEx0 "BadTreeEdit") (aCons (eVar 3) aNil)) (aCons (eOpN (gEx0 "BadTruths") (aCons (eVar 3) aNil)) aNil))))))))) (sSeq (sSet 6 (eOp2 gAdd (eVar 6) (eOpN gLst (aCons (eOpN (gEx0 "BadTurnState") (aCons (eVar 3) aNil)) (aCons (eOpN (gEx0 "BadTurning") (aCons (eVar 3) aNil)) (aCons (eOpN (gEx0 "BadWholeEdit") (aCons (eVar 3) aNil)) (aCons (eOpN (gEx0 "Broad") (aCons (eVar 3) aNil)) (aCons (eOpN (gEx1 "CannotDeal" "word") (aCons (eVar 4) aNil)) (aCons (eOpN (gEx1 "CannotEdit" "word") (aCons (eVar 4) aNil)) aNil))))))))) (sSeq (sSet 6 (eOp2 gAdd (eVar 6) (eOpN gLst (aCons (eOpN (gEx1 "CannotFollow" "word") (aCons (eVar 4) aNil)) (aCons (eOpN (gEx0 "LargeRow") (aCons (eVar 3) aNil)) (aCons (eOpN (gEx1 "LongPaper" "parts") (aCons (eVar 4) aNil)) (aCons (eOpN (gEx0 "LooksWithin") (aCons (eVar 3) aNil)) (aCons (eOpN (gEx0 "NoDocument") (aCons (eVar 3) aNil)) (aCons (eOpN (gEx1 "NoEvent" "word") (aCons (eVar 4) aNil)) aNil))))))))) (sSeq (sSet 6 (eOp2 gAdd (eVar 6) (eOpN gLst (aCons (eOpN (gEx0 "NotOver") (aCons (eVar 3) aNil)) (aCons (eOpN (gEx0 "NotSayable") (aCons (eVar 3) aNil)) (aCons (eOpN (gEx0 "NothingDone") (aCons (eVar 3) aNil)) (aCons (eOpN (gEx0 "NothingUndone") (aCons (eVar 3) aNil)) (aCons (eOpN (gEx0 "TooGreat") (aCons (eVar 3) aNil)) (aCons (eOpN (gEx0 "Wide") (aCons (eVar 3) aNil)) aNil))))))))) (sSeq (sFor (iEnumL (aCons (eVar 6) aNil)) (gdTup2 7 8) (sSeq (sIf (tB (eOp2 gNe (eCall f_flags (aCons (eVar 8) aNil)) (eComp (iRange (aCons (eOpN gLen (aCons (eVar 6) aNil)) aNil)) (gdName 9) tTrue (eOp2 gEq (eVar 9) (eVar 7)) [9]))) (sRet (eC (.bl false))) sNext) (sIf (tOr (tNot (tB (eOpN (gIsE vcs) (aCons (eVar 8) (aCons (eC (.glo "LeafError")) aNil))))) (tNot (tB (eOpN (gIsE vcs) (aCons (eVar 8) (aCons (eC (.ty "ValueError")) aNil)))))) (sRet (eC (.bl false))) sNext))) (sSeq (sSet 10 (eOpN (gEx0 "LeafError") (aCons (eVar 3) aNil))) (sSeq (sIf (tOr (tB (eOp2 gInL (eC (.bl true)) (eCall f_flags (aCons (eVar 10) aNil)))) (tOr (tNot (tB (eOpN (gIsE vcs) (aCons (eVar 10) (aCons (eC (.ty "ValueError")) aNil))))) (tB (eIsVB (aCons (eVar 3) aNil))))) (sRet (eC (.bl false))) sNext) (sSeq (sSet 11 (eOpN gLst (aCons (eAt "BadEvents" "number" (eOpN (gEx1 "BadEvents" "number") (aCons (eVar 4) aNil))) (aCons (eAt "BadEvents" "number" (eOpN (gEx1 "BadEvents" "number") (aCons (eVar 4) aNil))) (aCons (eAt "BadLine" "number" (eOpN (gEx1 "BadLine" "number") (aCons (eVar 4) aNil))) (aCons (eAt "BadLine" "number" (eOpN (gEx1 "BadLine" "number") (aCons (eVar 4) aNil))) (aCons (eAt "BadModules" "fault" (eOpN (gEx1 "BadModules" "fault") (aCons (eVar 4) aNil))) (aCons (eAt "BadModules" "fault" (eOpN (gEx1 "BadModules" "fault") (aCons (eVar 4) aNil))) aNil)))))))) (sSeq (sSet 11 (eOp2 gAdd (eVar 11) (eOpN gLst (aCons (eAt "BadSigns" "at" (eOpN (gEx1 "BadSigns" "at") (aCons (eVar 4) aNil))) (aCons (eAt "BadSigns" "at" (eOpN (gEx1 "BadSigns" "at") (aCons (eVar 4) aNil))) (aCons (eAt "CannotDeal" "word" (eOpN (gEx1 "CannotDeal" "word") (aCons (eVar 4) aNil))) (aCons (eAt "CannotDeal" "word" (eOpN (gEx1 "CannotDeal" "word") (aCons (eVar 4) aNil))) (aCons (eAt "CannotEdit" "word" (eOpN (gEx1 "CannotEdit" "word") (aCons (eVar 4) aNil))) (aCons (eAt "CannotEdit" "word" (eOpN (gEx1 "CannotEdit" "word") (aCons (eVar 4) aNil))) aNil))))))))) (sSeq (sSet 11 (eOp2 gAdd (eVar 11) (eOpN gLst (aCons (eAt "CannotFollow" "word" (eOpN (gEx1 "CannotFollow" "word") (aCons (eVar 4) aNil))) (aCons (eAt "CannotFollow" "word" (eOpN (gEx1 "CannotFollow" "word") (aCons (eVar 4) aNil))) (aCons (eAt "LongPaper" "parts" (eOpN (gEx1 "LongPaper" "parts") (aCons (eVar 4) aNil))) (aCons (eAt "LongPaper" "parts" (eOpN (gEx1 "LongPaper" "parts") (aCons (eVar 4) aNil))) (aCons (eAt "NoEvent" "word" (eOpN (gEx1 "NoEvent" "word") (aCons (eVar 4) aNil))) (aCons (eAt "NoEvent" "word" (eOpN (gEx1 "NoEvent" "word") (aCons (eVar 4) aNil))) aNil))))))))) (sIf (tB (eOp2 gNe (eOpN gRepr (aCons (eVar 11) aNil)) (eOpN gRepr (aCons (eOp2 gRepL (eOpN gLst (aCons (eVar 4) aNil)) (eC (.int 18))) aNil)))) (sRet (eC (.bl false))) sNext))))))))))))))))))) (sRet (eC (.bl true))))
theorem r_law (fx : Fx w K mg base) (hB : ∃ fd, FnOk Pr w K mg base (L2.CX Pr w) 1 (He.ga K "_law_begun") fd ["script"] (spBegun K (TT K)) ∧ Binds K fd ["script"] [] ∧ PySem.W.keepIn K (.ref (He.ga K "_law_begun")) = true) (h_w_draw : Cal Pr w K mg base "_law_draw" 2 ["state", "size_here"] (PD (TT K)) drawF) (h_w_k00_flags : Cal Pr w K mg base "_law_k00_flags" 1 ["error"] (PD (TT K)) f_flags) (h_w_pick : Cal Pr w K mg base "_law_pick" 3 ["state", "several"] (PD (TT K)) pickF) : ∀ fd, FunD K "law" "law" (defArgs t_law) (defBody t_law) (defScope t_law) [] [] (He.ga K "law") fd → FnG Pr w K mg base (L2.CX Pr w) 4 (He.ga K "law") fd ["script"] (spLaw K (TT K) 10 g_law) := by
  intro fd F
  obtain ⟨fdb, FB, BB, kB⟩ := hB
  exact law_okG (N := ["turn", "text", "number", "other", "made", "at", "error", "place", "base", "told"]) (g := g_law) F sc_law (fun cdv ecd A outer s H E hgu hr tk => ⟨_, _, rfl, ps_begun FB (hr.mono (by decide)) fx.m_w_begun kB BB tk sc_law.nd rfl rfl (by first | exact .inl rfl | exact .inr (.inl rfl)) (by first | exact .inl rfl | exact .inr rfl) (by first | exact .inl rfl | exact .inr rfl), (sd_cons (sd_for (passes_of rfl) rfl (id_range fx.n_range (ad_cons (pd_op op_addA op2_add pd_int (pd_callB (call_min2 rfl) o_min2 fx.n_min (by decide +kernel) (ad_cons (pd_callB call_len opn_len fx.n_len (by decide +kernel) (ad_cons (pd_var 0) ad_nil)) (ad_cons pd_int ad_nil)))) ad_nil)) (gd_name (i := 2) sc_law.nd rfl (by first | exact .inl rfl | exact .inr rfl)) (sd_cons (sd_par3 (i := 3) (j := 4) (l := 5) rfl sc_law.nd rfl rfl rfl (by decide) (by decide) (by decide) rfl rfl rfl (ad_cons (pd_cal (ps := ["state", "several"]) h_w_pick (hr.mono (by decide)) tk (LenA.cons (LenA.cons LenA.nil)) (ad_cons (pd_var 1) (ad_cons (pd_lst (ad_cons pd_str (ad_cons pd_str (ad_cons pd_str ad_nil)))) ad_nil))) (ad_cons (pd_cal (ps := ["state", "size_here"]) h_w_draw (hr.mono (by decide)) tk (LenA.cons (LenA.cons LenA.nil)) (ad_cons (pd_var 1) (ad_cons pd_int ad_nil))) (ad_cons (pd_cal (ps := ["state", "size_here"]) h_w_draw (hr.mono (by decide)) tk (LenA.cons (LenA.cons LenA.nil)) (ad_cons (pd_var 1) (ad_cons pd_int ad_nil))) ad_nil)))) (sd_cons (sd_set (i := 6) sc_law.nd rfl (by first | exact .inl rfl | exact .inr rfl) (pd_lst (ad_cons (pd_ex0 (fx.v0 _ v_BadAsks).2.1 (fx.v0 _ v_BadAsks).1 (fx.v0 _ v_BadAsks).2.2 (ad_cons (pd_var 3) ad_nil)) (ad_cons (pd_ex0 (fx.v0 _ v_BadAxis).2.1 (fx.v0 _ v_BadAxis).1 (fx.v0 _ v_BadAxis).2.2 (ad_cons (pd_var 3) ad_nil)) (ad_cons (pd_ex0 (fx.v0 _ v_BadBits).2.1 (fx.v0 _ v_BadBits).1 (fx.v0 _ v_BadBits).2.2 (ad_cons (pd_var 3) ad_nil)) (ad_cons (pd_ex0 (fx.v0 _ v_BadBush).2.1 (fx.v0 _ v_BadBush).1 (fx.v0 _ v_BadBush).2.2 (ad_cons (pd_var 3) ad_nil)) (ad_cons (pd_ex0 (fx.v0 _ v_BadCase).2.1 (fx.v0 _ v_BadCase).1 (fx.v0 _ v_BadCase).2.2 (ad_cons (pd_var 3) ad_nil)) (ad_cons (pd_ex0 (fx.v0 _ v_BadContent).2.1 (fx.v0 _ v_BadContent).1 (fx.v0 _ v_BadContent).2.2 (ad_cons (pd_var 3) ad_nil)) ad_nil)))))))) (sd_cons (sd_set (i := 6) sc_law.nd rfl (by first | exact .inl rfl | exact .inr rfl) (pd_op op_addA op2_add (pd_var 6) (pd_lst (ad_cons (pd_ex0 (fx.v0 _ v_BadDeal).2.1 (fx.v0 _ v_BadDeal).1 (fx.v0 _ v_BadDeal).2.2 (ad_cons (pd_var 3) ad_nil)) (ad_cons (pd_ex0 (fx.v0 _ v_BadDemands).2.1 (fx.v0 _ v_BadDemands).1 (fx.v0 _ v_BadDemands).2.2 (ad_cons (pd_var 3) ad_nil)) (ad_cons (pd_ex0 (fx.v0 _ v_BadEvent).2.1 (fx.v0 _ v_BadEvent).1 (fx.v0 _ v_BadEvent).2.2 (ad_cons (pd_var 3) ad_nil)) (ad_cons (pd_ex1 (fx.v1 _ v_BadEvents).2.1 fok_number fx.nt fx.n_super htop (hr.mono (by decide)) (fx.v1 _ v_BadEvents).1 (ad_cons (pd_var 4) ad_nil)) (ad_cons (pd_ex0 (fx.v0 _ v_BadFilter).2.1 (fx.v0 _ v_BadFilter).1 (fx.v0 _ v_BadFilter).2.2 (ad_cons (pd_var 3) ad_nil)) (ad_cons (pd_ex0 (fx.v0 _ v_BadFormula).2.1 (fx.v0 _ v_BadFormula).1 (fx.v0 _ v_BadFormula).2.2 (ad_cons (pd_var 3) ad_nil)) ad_nil))))))))) (sd_cons (sd_set (i := 6) sc_law.nd rfl (by first | exact .inl rfl | exact .inr rfl) (pd_op op_addA op2_add (pd_var 6) (pd_lst (ad_cons (pd_ex0 (fx.v0 _ v_BadHistory).2.1 (fx.v0 _ v_BadHistory).1 (fx.v0 _ v_BadHistory).2.2 (ad_cons (pd_var 3) ad_nil)) (ad_cons (pd_ex0 (fx.v0 _ v_BadLabel).2.1 (fx.v0 _ v_BadLabel).1 (fx.v0 _ v_BadLabel).2.2 (ad_cons (pd_var 3) ad_nil)) (ad_cons (pd_ex1 (fx.v1 _ v_BadLine).2.1 fok_number fx.nt fx.n_super htop (hr.mono (by decide)) (fx.v1 _ v_BadLine).1 (ad_cons (pd_var 4) ad_nil)) (ad_cons (pd_ex1 (fx.v1 _ v_BadModules).2.1 fok_fault fx.nt fx.n_super htop (hr.mono (by decide)) (fx.v1 _ v_BadModules).1 (ad_cons (pd_var 4) ad_nil)) (ad_cons (pd_ex0 (fx.v0 _ v_BadMoment).2.1 (fx.v0 _ v_BadMoment).1 (fx.v0 _ v_BadMoment).2.2 (ad_cons (pd_var 3) ad_nil)) (ad_cons (pd_ex0 (fx.v0 _ v_BadName).2.1 (fx.v0 _ v_BadName).1 (fx.v0 _ v_BadName).2.2 (ad_cons (pd_var 3) ad_nil)) ad_nil))))))))) (sd_cons (sd_set (i := 6) sc_law.nd rfl (by first | exact .inl rfl | exact .inr rfl) (pd_op op_addA op2_add (pd_var 6) (pd_lst (ad_cons (pd_ex0 (fx.v0 _ v_BadNumber).2.1 (fx.v0 _ v_BadNumber).1 (fx.v0 _ v_BadNumber).2.2 (ad_cons (pd_var 3) ad_nil)) (ad_cons (pd_ex0 (fx.v0 _ v_BadNumbered).2.1 (fx.v0 _ v_BadNumbered).1 (fx.v0 _ v_BadNumbered).2.2 (ad_cons (pd_var 3) ad_nil)) (ad_cons (pd_ex0 (fx.v0 _ v_BadPath).2.1 (fx.v0 _ v_BadPath).1 (fx.v0 _ v_BadPath).2.2 (ad_cons (pd_var 3) ad_nil)) (ad_cons (pd_ex0 (fx.v0 _ v_BadPaths).2.1 (fx.v0 _ v_BadPaths).1 (fx.v0 _ v_BadPaths).2.2 (ad_cons (pd_var 3) ad_nil)) (ad_cons (pd_ex0 (fx.v0 _ v_BadPlace).2.1 (fx.v0 _ v_BadPlace).1 (fx.v0 _ v_BadPlace).2.2 (ad_cons (pd_var 3) ad_nil)) (ad_cons (pd_ex0 (fx.v0 _ v_BadProgramme).2.1 (fx.v0 _ v_BadProgramme).1 (fx.v0 _ v_BadProgramme).2.2 (ad_cons (pd_var 3) ad_nil)) ad_nil))))))))) (sd_cons (sd_set (i := 6) sc_law.nd rfl (by first | exact .inl rfl | exact .inr rfl) (pd_op op_addA op2_add (pd_var 6) (pd_lst (ad_cons (pd_ex0 (fx.v0 _ v_BadQuestion).2.1 (fx.v0 _ v_BadQuestion).1 (fx.v0 _ v_BadQuestion).2.2 (ad_cons (pd_var 3) ad_nil)) (ad_cons (pd_ex0 (fx.v0 _ v_BadRow).2.1 (fx.v0 _ v_BadRow).1 (fx.v0 _ v_BadRow).2.2 (ad_cons (pd_var 3) ad_nil)) (ad_cons (pd_ex0 (fx.v0 _ v_BadRowOfBushes).2.1 (fx.v0 _ v_BadRowOfBushes).1 (fx.v0 _ v_BadRowOfBushes).2.2 (ad_cons (pd_var 3) ad_nil)) (ad_cons (pd_ex0 (fx.v0 _ v_BadSchema).2.1 (fx.v0 _ v_BadSchema).1 (fx.v0 _ v_BadSchema).2.2 (ad_cons (pd_var 3) ad_nil)) (ad_cons (pd_ex0 (fx.v0 _ v_BadShelf).2.1 (fx.v0 _ v_BadShelf).1 (fx.v0 _ v_BadShelf).2.2 (ad_cons (pd_var 3) ad_nil)) (ad_cons (pd_ex1 (fx.v1 _ v_BadSigns).2.1 fok_at fx.nt fx.n_super htop (hr.mono (by decide)) (fx.v1 _ v_BadSigns).1 (ad_cons (pd_var 4) ad_nil)) ad_nil))))))))) (sd_cons (sd_set (i := 6) sc_law.nd rfl (by first | exact .inl rfl | exact .inr rfl) (pd_op op_addA op2_add (pd_var 6) (pd_lst (ad_cons (pd_ex0 (fx.v0 _ v_BadSize).2.1 (fx.v0 _ v_BadSize).1 (fx.v0 _ v_BadSize).2.2 (ad_cons (pd_var 3) ad_nil)) (ad_cons (pd_ex0 (fx.v0 _ v_BadStance).2.1 (fx.v0 _ v_BadStance).1 (fx.v0 _ v_BadStance).2.2 (ad_cons (pd_var 3) ad_nil)) (ad_cons (pd_ex0 (fx.v0 _ v_BadStanding).2.1 (fx.v0 _ v_BadStanding).1 (fx.v0 _ v_BadStanding).2.2 (ad_cons (pd_var 3) ad_nil)) (ad_cons (pd_ex0 (fx.v0 _ v_BadState).2.1 (fx.v0 _ v_BadState).1 (fx.v0 _ v_BadState).2.2 (ad_cons (pd_var 3) ad_nil)) (ad_cons (pd_ex0 (fx.v0 _ v_BadStates).2.1 (fx.v0 _ v_BadStates).1 (fx.v0 _ v_BadStates).2.2 (ad_cons (pd_var 3) ad_nil)) (ad_cons (pd_ex0 (fx.v0 _ v_BadSum).2.1 (fx.v0 _ v_BadSum).1 (fx.v0 _ v_BadSum).2.2 (ad_cons (pd_var 3) ad_nil)) ad_nil))))))))) (sd_cons (sd_set (i := 6) sc_law.nd rfl (by first | exact .inl rfl | exact .inr rfl) (pd_op op_addA op2_add (pd_var 6) (pd_lst (ad_cons (pd_ex0 (fx.v0 _ v_BadTable).2.1 (fx.v0 _ v_BadTable).1 (fx.v0 _ v_BadTable).2.2 (ad_cons (pd_var 3) ad_nil)) (ad_cons (pd_ex0 (fx.v0 _ v_BadTables).2.1 (fx.v0 _ v_BadTables).1 (fx.v0 _ v_BadTables).2.2 (ad_cons (pd_var 3) ad_nil)) (ad_cons (pd_ex0 (fx.v0 _ v_BadThing).2.1 (fx.v0 _ v_BadThing).1 (fx.v0 _ v_BadThing).2.2 (ad_cons (pd_var 3) ad_nil)) (ad_cons (pd_ex0 (fx.v0 _ v_BadTree).2.1 (fx.v0 _ v_BadTree).1 (fx.v0 _ v_BadTree).2.2 (ad_cons (pd_var 3) ad_nil)) (ad_cons (pd_ex0 (fx.v0 _ v_BadTreeEdit).2.1 (fx.v0 _ v_BadTreeEdit).1 (fx.v0 _ v_BadTreeEdit).2.2 (ad_cons (pd_var 3) ad_nil)) (ad_cons (pd_ex0 (fx.v0 _ v_BadTruths).2.1 (fx.v0 _ v_BadTruths).1 (fx.v0 _ v_BadTruths).2.2 (ad_cons (pd_var 3) ad_nil)) ad_nil))))))))) (sd_cons (sd_set (i := 6) sc_law.nd rfl (by first | exact .inl rfl | exact .inr rfl) (pd_op op_addA op2_add (pd_var 6) (pd_lst (ad_cons (pd_ex0 (fx.v0 _ v_BadTurnState).2.1 (fx.v0 _ v_BadTurnState).1 (fx.v0 _ v_BadTurnState).2.2 (ad_cons (pd_var 3) ad_nil)) (ad_cons (pd_ex0 (fx.v0 _ v_BadTurning).2.1 (fx.v0 _ v_BadTurning).1 (fx.v0 _ v_BadTurning).2.2 (ad_cons (pd_var 3) ad_nil)) (ad_cons (pd_ex0 (fx.v0 _ v_BadWholeEdit).2.1 (fx.v0 _ v_BadWholeEdit).1 (fx.v0 _ v_BadWholeEdit).2.2 (ad_cons (pd_var 3) ad_nil)) (ad_cons (pd_ex0 (fx.v0 _ v_Broad).2.1 (fx.v0 _ v_Broad).1 (fx.v0 _ v_Broad).2.2 (ad_cons (pd_var 3) ad_nil)) (ad_cons (pd_ex1 (fx.v1 _ v_CannotDeal).2.1 fok_word fx.nt fx.n_super htop (hr.mono (by decide)) (fx.v1 _ v_CannotDeal).1 (ad_cons (pd_var 4) ad_nil)) (ad_cons (pd_ex1 (fx.v1 _ v_CannotEdit).2.1 fok_word fx.nt fx.n_super htop (hr.mono (by decide)) (fx.v1 _ v_CannotEdit).1 (ad_cons (pd_var 4) ad_nil)) ad_nil))))))))) (sd_cons (sd_set (i := 6) sc_law.nd rfl (by first | exact .inl rfl | exact .inr rfl) (pd_op op_addA op2_add (pd_var 6) (pd_lst (ad_cons (pd_ex1 (fx.v1 _ v_CannotFollow).2.1 fok_word fx.nt fx.n_super htop (hr.mono (by decide)) (fx.v1 _ v_CannotFollow).1 (ad_cons (pd_var 4) ad_nil)) (ad_cons (pd_ex0 (fx.v0 _ v_LargeRow).2.1 (fx.v0 _ v_LargeRow).1 (fx.v0 _ v_LargeRow).2.2 (ad_cons (pd_var 3) ad_nil)) (ad_cons (pd_ex1 (fx.v1 _ v_LongPaper).2.1 fok_parts fx.nt fx.n_super htop (hr.mono (by decide)) (fx.v1 _ v_LongPaper).1 (ad_cons (pd_var 4) ad_nil)) (ad_cons (pd_ex0 (fx.v0 _ v_LooksWithin).2.1 (fx.v0 _ v_LooksWithin).1 (fx.v0 _ v_LooksWithin).2.2 (ad_cons (pd_var 3) ad_nil)) (ad_cons (pd_ex0 (fx.v0 _ v_NoDocument).2.1 (fx.v0 _ v_NoDocument).1 (fx.v0 _ v_NoDocument).2.2 (ad_cons (pd_var 3) ad_nil)) (ad_cons (pd_ex1 (fx.v1 _ v_NoEvent).2.1 fok_word fx.nt fx.n_super htop (hr.mono (by decide)) (fx.v1 _ v_NoEvent).1 (ad_cons (pd_var 4) ad_nil)) ad_nil))))))))) (sd_cons (sd_set (i := 6) sc_law.nd rfl (by first | exact .inl rfl | exact .inr rfl) (pd_op op_addA op2_add (pd_var 6) (pd_lst (ad_cons (pd_ex0 (fx.v0 _ v_NotOver).2.1 (fx.v0 _ v_NotOver).1 (fx.v0 _ v_NotOver).2.2 (ad_cons (pd_var 3) ad_nil)) (ad_cons (pd_ex0 (fx.v0 _ v_NotSayable).2.1 (fx.v0 _ v_NotSayable).1 (fx.v0 _ v_NotSayable).2.2 (ad_cons (pd_var 3) ad_nil)) (ad_cons (pd_ex0 (fx.v0 _ v_NothingDone).2.1 (fx.v0 _ v_NothingDone).1 (fx.v0 _ v_NothingDone).2.2 (ad_cons (pd_var 3) ad_nil)) (ad_cons (pd_ex0 (fx.v0 _ v_NothingUndone).2.1 (fx.v0 _ v_NothingUndone).1 (fx.v0 _ v_NothingUndone).2.2 (ad_cons (pd_var 3) ad_nil)) (ad_cons (pd_ex0 (fx.v0 _ v_TooGreat).2.1 (fx.v0 _ v_TooGreat).1 (fx.v0 _ v_TooGreat).2.2 (ad_cons (pd_var 3) ad_nil)) (ad_cons (pd_ex0 (fx.v0 _ v_Wide).2.1 (fx.v0 _ v_Wide).1 (fx.v0 _ v_Wide).2.2 (ad_cons (pd_var 3) ad_nil)) ad_nil))))))))) (sd_cons (sd_for (passes_of rfl) rfl (id_enumL fx.n_enumerate (ad_cons (pd_var 6) ad_nil)) (gd_tup2 (i := 7) (j := 8) rfl sc_law.nd rfl rfl (by first | exact .inl rfl | exact .inr rfl) (by first | exact .inl rfl | exact .inr rfl)) (sd_cons (sd_if (td_cmp (c_ne hr.units) o_ne (by first | exact nobehind _ (by decide) (by decide) | rfl) (pd_cal (ps := ["error"]) h_w_k00_flags (hr.mono (by decide)) tk (LenA.cons LenA.nil) (ad_cons (pd_var 8) ad_nil)) (pd_lc rfl sc_law.nd (id_range fx.n_range (ad_cons (pd_callB call_len opn_len fx.n_len (by decide +kernel) (ad_cons (pd_var 6) ad_nil)) ad_nil)) (blkOk_by (own := [("place", 9)]) (by kernel_rfl)) (fun p => (gd_name (i := 9) sc_law.nd rfl (by first | exact .inl rfl | exact .inr rfl))) (fun p => tsd_nil) (fun p => (pd_cmp (c_eq hr.units) o_eq (by first | exact nobehind _ (by decide) (by decide) | rfl) (pd_var 9) (pd_var 7))))) (sd_one (sd_ret pd_bl)) sd_nil) (sd_one (sd_if (td_w (wd_or (td_not (td_val (pd_callB call_isO (o_isE fx.eqE fx.xcE le_in) fx.n_isinstance (by decide +kernel) (ad_cons (pd_var 8) (ad_cons (pd_own (fx.v0 _ v_LeafError).1) ad_nil))))) (wd_or1 (td_not (td_val (pd_callB call_isO (o_isE fx.eqE fx.xcE le_in) fx.n_isinstance (by decide +kernel) (ad_cons (pd_var 8) (ad_cons (pd_ty fx.n_ValueError (by decide +kernel)) ad_nil)))))))) (sd_one (sd_ret pd_bl)) sd_nil)))) (sd_cons (sd_set (i := 10) sc_law.nd rfl (by first | exact .inl rfl | exact .inr rfl) (pd_ex0 (fx.v0 _ v_LeafError).2.1 (fx.v0 _ v_LeafError).1 (fx.v0 _ v_LeafError).2.2 (ad_cons (pd_var 3) ad_nil))) (sd_cons (sd_if (td_w (wd_or (td_cmp op_in_seq o_inL (by first | exact nobehind _ (by decide) (by decide) | rfl) pd_bl (pd_cal (ps := ["error"]) h_w_k00_flags (hr.mono (by decide)) tk (LenA.cons LenA.nil) (ad_cons (pd_var 10) ad_nil))) (wd_or (td_not (td_val (pd_callB call_isO (o_isE fx.eqE fx.xcE le_in) fx.n_isinstance (by decide +kernel) (ad_cons (pd_var 10) (ad_cons (pd_ty fx.n_ValueError (by decide +kernel)) ad_nil))))) (wd_or1 (td_val (pd_isVB fx.eqE (by decide +kernel) fx.n_isinstance fx.n_ValueError (fx.v0 _ v_LeafError).1 (ad_cons (pd_var 3) ad_nil))))))) (sd_one (sd_ret pd_bl)) sd_nil) (sd_cons (sd_set (i := 11) sc_law.nd rfl (by first | exact .inl rfl | exact .inr rfl) (pd_lst (ad_cons (pd_at (fx.v1 _ v_BadEvents).2.2 (fx.v1 _ v_BadEvents).2.1.ic.fld (pd_ex1 (fx.v1 _ v_BadEvents).2.1 fok_number fx.nt fx.n_super htop (hr.mono (by decide)) (fx.v1 _ v_BadEvents).1 (ad_cons (pd_var 4) ad_nil))) (ad_cons (pd_at (fx.v1 _ v_BadEvents).2.2 (fx.v1 _ v_BadEvents).2.1.ic.fld (pd_exK (fx.v1 _ v_BadEvents).2.1 fok_number fx.nt fx.n_super htop (hr.mono (by decide)) (fx.v1 _ v_BadEvents).1 (kd_cons (pd_var 4) kd_nil))) (ad_cons (pd_at (fx.v1 _ v_BadLine).2.2 (fx.v1 _ v_BadLine).2.1.ic.fld (pd_ex1 (fx.v1 _ v_BadLine).2.1 fok_number fx.nt fx.n_super htop (hr.mono (by decide)) (fx.v1 _ v_BadLine).1 (ad_cons (pd_var 4) ad_nil))) (ad_cons (pd_at (fx.v1 _ v_BadLine).2.2 (fx.v1 _ v_BadLine).2.1.ic.fld (pd_exK (fx.v1 _ v_BadLine).2.1 fok_number fx.nt fx.n_super htop (hr.mono (by decide)) (fx.v1 _ v_BadLine).1 (kd_cons (pd_var 4) kd_nil))) (ad_cons (pd_at (fx.v1 _ v_BadModules).2.2 (fx.v1 _ v_BadModules).2.1.ic.fld (pd_ex1 (fx.v1 _ v_BadModules).2.1 fok_fault fx.nt fx.n_super htop (hr.mono (by decide)) (fx.v1 _ v_BadModules).1 (ad_cons (pd_var 4) ad_nil))) (ad_cons (pd_at (fx.v1 _ v_BadModules).2.2 (fx.v1 _ v_BadModules).2.1.ic.fld (pd_exK (fx.v1 _ v_BadModules).2.1 fok_fault fx.nt fx.n_super htop (hr.mono (by decide)) (fx.v1 _ v_BadModules).1 (kd_cons (pd_var 4) kd_nil))) ad_nil)))))))) (sd_cons (sd_set (i := 11) sc_law.nd rfl (by first | exact .inl rfl | exact .inr rfl) (pd_op op_addA op2_add (pd_var 11) (pd_lst (ad_cons (pd_at (fx.v1 _ v_BadSigns).2.2 (fx.v1 _ v_BadSigns).2.1.ic.fld (pd_ex1 (fx.v1 _ v_BadSigns).2.1 fok_at fx.nt fx.n_super htop (hr.mono (by decide)) (fx.v1 _ v_BadSigns).1 (ad_cons (pd_var 4) ad_nil))) (ad_cons (pd_at (fx.v1 _ v_BadSigns).2.2 (fx.v1 _ v_BadSigns).2.1.ic.fld (pd_exK (fx.v1 _ v_BadSigns).2.1 fok_at fx.nt fx.n_super htop (hr.mono (by decide)) (fx.v1 _ v_BadSigns).1 (kd_cons (pd_var 4) kd_nil))) (ad_cons (pd_at (fx.v1 _ v_CannotDeal).2.2 (fx.v1 _ v_CannotDeal).2.1.ic.fld (pd_ex1 (fx.v1 _ v_CannotDeal).2.1 fok_word fx.nt fx.n_super htop (hr.mono (by decide)) (fx.v1 _ v_CannotDeal).1 (ad_cons (pd_var 4) ad_nil))) (ad_cons (pd_at (fx.v1 _ v_CannotDeal).2.2 (fx.v1 _ v_CannotDeal).2.1.ic.fld (pd_exK (fx.v1 _ v_CannotDeal).2.1 fok_word fx.nt fx.n_super htop (hr.mono (by decide)) (fx.v1 _ v_CannotDeal).1 (kd_cons (pd_var 4) kd_nil))) (ad_cons (pd_at (fx.v1 _ v_CannotEdit).2.2 (fx.v1 _ v_CannotEdit).2.1.ic.fld (pd_ex1 (fx.v1 _ v_CannotEdit).2.1 fok_word fx.nt fx.n_super htop (hr.mono (by decide)) (fx.v1 _ v_CannotEdit).1 (ad_cons (pd_var 4) ad_nil))) (ad_cons (pd_at (fx.v1 _ v_CannotEdit).2.2 (fx.v1 _ v_CannotEdit).2.1.ic.fld (pd_exK (fx.v1 _ v_CannotEdit).2.1 fok_word fx.nt fx.n_super htop (hr.mono (by decide)) (fx.v1 _ v_CannotEdit).1 (kd_cons (pd_var 4) kd_nil))) ad_nil))))))))) (sd_cons (sd_set (i := 11) sc_law.nd rfl (by first | exact .inl rfl | exact .inr rfl) (pd_op op_addA op2_add (pd_var 11) (pd_lst (ad_cons (pd_at (fx.v1 _ v_CannotFollow).2.2 (fx.v1 _ v_CannotFollow).2.1.ic.fld (pd_ex1 (fx.v1 _ v_CannotFollow).2.1 fok_word fx.nt fx.n_super htop (hr.mono (by decide)) (fx.v1 _ v_CannotFollow).1 (ad_cons (pd_var 4) ad_nil))) (ad_cons (pd_at (fx.v1 _ v_CannotFollow).2.2 (fx.v1 _ v_CannotFollow).2.1.ic.fld (pd_exK (fx.v1 _ v_CannotFollow).2.1 fok_word fx.nt fx.n_super htop (hr.mono (by decide)) (fx.v1 _ v_CannotFollow).1 (kd_cons (pd_var 4) kd_nil))) (ad_cons (pd_at (fx.v1 _ v_LongPaper).2.2 (fx.v1 _ v_LongPaper).2.1.ic.fld (pd_ex1 (fx.v1 _ v_LongPaper).2.1 fok_parts fx.nt fx.n_super htop (hr.mono (by decide)) (fx.v1 _ v_LongPaper).1 (ad_cons (pd_var 4) ad_nil))) (ad_cons (pd_at (fx.v1 _ v_LongPaper).2.2 (fx.v1 _ v_LongPaper).2.1.ic.fld (pd_exK (fx.v1 _ v_LongPaper).2.1 fok_parts fx.nt fx.n_super htop (hr.mono (by decide)) (fx.v1 _ v_LongPaper).1 (kd_cons (pd_var 4) kd_nil))) (ad_cons (pd_at (fx.v1 _ v_NoEvent).2.2 (fx.v1 _ v_NoEvent).2.1.ic.fld (pd_ex1 (fx.v1 _ v_NoEvent).2.1 fok_word fx.nt fx.n_super htop (hr.mono (by decide)) (fx.v1 _ v_NoEvent).1 (ad_cons (pd_var 4) ad_nil))) (ad_cons (pd_at (fx.v1 _ v_NoEvent).2.2 (fx.v1 _ v_NoEvent).2.1.ic.fld (pd_exK (fx.v1 _ v_NoEvent).2.1 fok_word fx.nt fx.n_super htop (hr.mono (by decide)) (fx.v1 _ v_NoEvent).1 (kd_cons (pd_var 4) kd_nil))) ad_nil))))))))) (sd_one (sd_if (td_cmp (c_ne hr.units) o_ne (by first | exact nobehind _ (by decide) (by decide) | rfl) (pd_callB (call_reprD hgu hr.units) o_repr fx.n_repr (by decide +kernel) (ad_cons (pd_var 11) ad_nil)) (pd_callB (call_reprD hgu hr.units) o_repr fx.n_repr (by decide +kernel) (ad_cons (pd_op op_rep o_repL (pd_lst (ad_cons (pd_var 4) ad_nil)) pd_int) ad_nil))) (sd_one (sd_ret pd_bl)) sd_nil)))))))))))))))))))) (sd_one (sd_ret pd_bl)))⟩)
end
end K00

namespace K00
open PySem DL
def row0 : List (Str × Option Str) := [(("BadAsks" : Str), (none : Option Str)), (("BadAxis" : Str), (none : Option Str)), (("BadBits" : Str), (none : Option Str)), (("BadBush" : Str), (none : Option Str)), (("BadCase" : Str), (none : Option Str)), (("BadContent" : Str), (none : Option Str))]
def row1 : List (Str × Option Str) := [(("BadDeal" : Str), (none : Option Str)), (("BadDemands" : Str), (none : Option Str)), (("BadEvent" : Str), (none : Option Str)), (("BadEvents" : Str), (some "number" : Option Str)), (("BadFilter" : Str), (none : Option Str)), (("BadFormula" : Str), (none : Option Str))]
def row2 : List (Str × Option Str) := [(("BadHistory" : Str), (none : Option Str)), (("BadLabel" : Str), (none : Option Str)), (("BadLine" : Str), (some "number" : Option Str)), (("BadModules" : Str), (some "fault" : Option Str)), (("BadMoment" : Str), (none : Option Str)), (("BadName" : Str), (none : Option Str))]
def row3 : List (Str × Option Str) := [(("BadNumber" : Str), (none : Option Str)), (("BadNumbered" : Str), (none : Option Str)), (("BadPath" : Str), (none : Option Str)), (("BadPaths" : Str), (none : Option Str)), (("BadPlace" : Str), (none : Option Str)), (("BadProgramme" : Str), (none : Option Str))]
def row4 : List (Str × Option Str) := [(("BadQuestion" : Str), (none : Option Str)), (("BadRow" : Str), (none : Option Str)), (("BadRowOfBushes" : Str), (none : Option Str)), (("BadSchema" : Str), (none : Option Str)), (("BadShelf" : Str), (none : Option Str)), (("BadSigns" : Str), (some "at" : Option Str))]
def row5 : List (Str × Option Str) := [(("BadSize" : Str), (none : Option Str)), (("BadStance" : Str), (none : Option Str)), (("BadStanding" : Str), (none : Option Str)), (("BadState" : Str), (none : Option Str)), (("BadStates" : Str), (none : Option Str)), (("BadSum" : Str), (none : Option Str))]
def row6 : List (Str × Option Str) := [(("BadTable" : Str), (none : Option Str)), (("BadTables" : Str), (none : Option Str)), (("BadThing" : Str), (none : Option Str)), (("BadTree" : Str), (none : Option Str)), (("BadTreeEdit" : Str), (none : Option Str)), (("BadTruths" : Str), (none : Option Str))]
def row7 : List (Str × Option Str) := [(("BadTurnState" : Str), (none : Option Str)), (("BadTurning" : Str), (none : Option Str)), (("BadWholeEdit" : Str), (none : Option Str)), (("Broad" : Str), (none : Option Str)), (("CannotDeal" : Str), (some "word" : Option Str)), (("CannotEdit" : Str), (some "word" : Option Str))]
def row8 : List (Str × Option Str) := [(("CannotFollow" : Str), (some "word" : Option Str)), (("LargeRow" : Str), (none : Option Str)), (("LongPaper" : Str), (some "parts" : Option Str)), (("LooksWithin" : Str), (none : Option Str)), (("NoDocument" : Str), (none : Option Str)), (("NoEvent" : Str), (some "word" : Option Str))]
def row9 : List (Str × Option Str) := [(("NotOver" : Str), (none : Option Str)), (("NotSayable" : Str), (none : Option Str)), (("NothingDone" : Str), (none : Option Str)), (("NothingUndone" : Str), (none : Option Str)), (("TooGreat" : Str), (none : Option Str)), (("Wide" : Str), (none : Option Str))]
def rowsM : List (List (Str × Option Str)) := [row1, row2, row3, row4, row5, row6, row7, row8, row9]
def four0 : List Str := ["BadAsks", "BadAxis", "BadBits", "BadBush"]
def four1 : List Str := ["BadCase", "BadContent", "BadDeal", "BadDemands"]
def four2 : List Str := ["BadEvent", "BadEvents", "BadFilter", "BadFormula"]
def four3 : List Str := ["BadHistory", "BadLabel", "BadLine", "BadModules"]
def four4 : List Str := ["BadMoment", "BadName", "BadNumber", "BadNumbered"]
def four5 : List Str := ["BadPath", "BadPaths", "BadPlace", "BadProgramme"]
def four6 : List Str := ["BadQuestion", "BadRow", "BadRowOfBushes", "BadSchema"]
def four7 : List Str := ["BadShelf", "BadSigns", "BadSize", "BadStance"]
def four8 : List Str := ["BadStanding", "BadState", "BadStates", "BadSum"]
def four9 : List Str := ["BadTable", "BadTables", "BadThing", "BadTree"]
def four10 : List Str := ["BadTreeEdit", "BadTruths", "BadTurnState", "BadTurning"]
def four11 : List Str := ["BadWholeEdit", "Broad", "CannotDeal", "CannotEdit"]
def four12 : List Str := ["CannotFollow", "LargeRow", "LongPaper", "LooksWithin"]
def four13 : List Str := ["NoDocument", "NoEvent", "NotOver", "NotSayable"]
def four14 : List Str := ["NothingDone", "NothingUndone", "TooGreat", "Wide"]
def foursM : List (List Str) := [four1, four2, four3, four4, four5, four6, four7, four8, four9, four10, four11, four12, four13, four14]
def told0 : List (Str × Str) := [(("BadEvents" : Str), ("number" : Str)), (("BadEvents" : Str), ("number" : Str)), (("BadLine" : Str), ("number" : Str)), (("BadLine" : Str), ("number" : Str)), (("BadModules" : Str), ("fault" : Str)), (("BadModules" : Str), ("fault" : Str))]
def told1 : List (Str × Str) := [(("BadSigns" : Str), ("at" : Str)), (("BadSigns" : Str), ("at" : Str)), (("CannotDeal" : Str), ("word" : Str)), (("CannotDeal" : Str), ("word" : Str)), (("CannotEdit" : Str), ("word" : Str)), (("CannotEdit" : Str), ("word" : Str))]
def told2 : List (Str × Str) := [(("CannotFollow" : Str), ("word" : Str)), (("CannotFollow" : Str), ("word" : Str)), (("LongPaper" : Str), ("parts" : Str)), (("LongPaper" : Str), ("parts" : Str)), (("NoEvent" : Str), ("word" : Str)), (("NoEvent" : Str), ("word" : Str))]
/-! ### the flags of an error -/
theorem flag_in : ∀ n ∈ flagN, n ∈ vcs ∧ n ≠ ("LeafError" : Str) := by decide +kernel
theorem isE {c n : Str} {fs : List (Str × D)} (hc : c ∈ vcs) (hn : n ∈ flagN) : gIsE vcs [.exc c fs, .glo n] = some (.bl (decide (c = n))) := by
  obtain ⟨h1, h2⟩ := flag_in n hn
  have e : gIsE vcs [.exc c fs, .glo n] = if c ∈ vcs ∧ n ∈ vcs then some (.bl (decide (c = n) || decide (n = "LeafError"))) else none := rfl
  rw [e, if_pos ⟨hc, h1⟩, decide_eq_false h2, Bool.or_false]
def isArgs : List Str → EvA
  | [] => aNil
  | n :: r => aCons (eOpN (gIsE vcs) (aCons (eVar 0) (aCons (eC (.glo n)) aNil))) (isArgs r)
theorem isArgs_run {δ : Sls} {ω : Om} {c : Str} {fs : List (Str × D)} (h0 : δ[0]? = some (.val (.exc c fs))) (hc : c ∈ vcs) : ∀ l : List Str, (∀ n ∈ l, n ∈ flagN) → isArgs l δ ω = .ok (l.map fun n => .bl (decide (c = n))) ω
  | [], _ => rfl
  | n :: r, h => by
    have ih := isArgs_run (ω := ω) h0 hc r fun m hm => h m (List.mem_cons_of_mem _ hm)
    have e := isE (fs := fs) hc (h n List.mem_cons_self)
    simp only [isArgs, aCons, eOpN, eVar, h0, eC, aNil, Rs.bind_ok, e, rs1_some, ih, List.map_cons]
def chainF : List (List Str) → EvS
  | [] => sNext
  | [c] => sRet (eOp2 gAdd (eVar 1) (eOpN gLst (isArgs c)))
  | c :: cs => sSeq (sSet 1 (eOp2 gAdd (eVar 1) (eOpN gLst (isArgs c)))) (chainF cs)
theorem chainF_run {c : Str} {fs : List (Str × D)} {ω : Om} (hc : c ∈ vcs) : ∀ (ls : List (List Str)) (acc : List D), ls ≠ [] → (∀ l ∈ ls, l.length ≤ 100 ∧ ∀ n ∈ l, n ∈ flagN) → acc.length + 100 * ls.length ≤ 10000 →
    chainF ls [.val (.exc c fs), .val (.lst acc)] ω = .ok (.rt (.lst (acc ++ ls.flatten.map fun n => .bl (decide (c = n))))) ω
  | [], _, h, _, _ => absurd rfl h
  | [l], acc, _, h, hl => by
    obtain ⟨h1, h2⟩ := h l List.mem_cons_self
    have hs : sizeLine = 16777216 := rfl
    have e1 := isArgs_run (δ := [.val (.exc c fs), .val (.lst acc)]) (ω := ω) rfl hc l h2
    have e2 : gLst (l.map fun n => D.bl (decide (c = n))) = some (.lst (l.map fun n => D.bl (decide (c = n)))) := gLst_ok (by rw [List.length_map]; omega)
    have e3 : gAdd (.lst acc) (.lst (l.map fun n => D.bl (decide (c = n)))) = some (.lst (acc ++ l.map fun n => D.bl (decide (c = n)))) := gAdd_L (by rw [List.length_map]; simp only [List.length_cons, List.length_nil] at hl; omega)
    have ef : ([l] : List (List Str)).flatten = l := by simp
    rw [ef]
    simp only [chainF, sRet, eOp2, eOpN, eVar, List.getElem?_cons_succ, List.getElem?_cons_zero, Rs.bind_ok, e1, e2, e3, rs1_some]
  | l :: m :: r, acc, _, h, hl => by
    obtain ⟨h1, h2⟩ := h l List.mem_cons_self
    have hs : sizeLine = 16777216 := rfl
    simp only [List.length_cons] at hl
    have e1 := isArgs_run (δ := [.val (.exc c fs), .val (.lst acc)]) (ω := ω) rfl hc l h2
    have e2 : gLst (l.map fun n => D.bl (decide (c = n))) = some (.lst (l.map fun n => D.bl (decide (c = n)))) := gLst_ok (by rw [List.length_map]; omega)
    have e3 : gAdd (.lst acc) (.lst (l.map fun n => D.bl (decide (c = n)))) = some (.lst (acc ++ l.map fun n => D.bl (decide (c = n)))) := gAdd_L (by rw [List.length_map]; omega)
    have ih := chainF_run (fs := fs) (ω := ω) hc (m :: r) (acc ++ l.map fun n => D.bl (decide (c = n))) (by simp) (fun x hx => h x (List.mem_cons_of_mem _ hx)) (by rw [List.length_append, List.length_map, List.length_cons]; omega)
    have ef : (l :: m :: r).flatten = l ++ (m :: r).flatten := rfl
    rw [ef, List.map_append, ← List.append_assoc, ← ih]
    have eg : chainF (l :: m :: r) = sSeq (sSet 1 (eOp2 gAdd (eVar 1) (eOpN gLst (isArgs l)))) (chainF (m :: r)) := rfl
    rw [eg]
    simp only [sSeq, sSet, eOp2, eOpN, eVar, List.getElem?_cons_succ, List.getElem?_cons_zero, Rs.bind_ok, e1, e2, e3, rs1_some, List.set_cons_succ, List.set_cons_zero]
theorem g_flags_eq : g_w_k00_flags = sSeq (sSet 1 (eOpN gLst (isArgs four0))) (chainF foursM) := rfl
theorem fours_in : (∀ n ∈ four0, n ∈ flagN) ∧ ∀ l ∈ foursM, l.length ≤ 100 ∧ ∀ n ∈ l, n ∈ flagN := by decide +kernel
theorem fours_all : four0 ++ foursM.flatten = flagN := by decide +kernel
theorem flags_run {c : Str} {fs : List (Str × D)} {ω : Om} (hc : c ∈ vcs) : g_w_k00_flags [.val (.exc c fs), .emp] ω = .ok (.rt (.lst (flagN.map fun n => .bl (decide (c = n))))) ω := by
  obtain ⟨h1, h2⟩ := fours_in
  have e1 := isArgs_run (δ := [.val (.exc c fs), .emp]) (ω := ω) rfl hc four0 h1
  have e3 := chainF_run (fs := fs) (ω := ω) hc foursM (four0.map fun n => D.bl (decide (c = n))) (by decide) h2 (by rw [List.length_map]; decide)
  rw [← List.map_append, fours_all] at e3
  have e4 := eLst_run e1 (by rw [List.length_map]; decide)
  rw [g_flags_eq, sSeq_run (sSet_run (i := 1) e4)]
  exact e3
theorem flags_ok : ∀ ds ω, f_flags ds ω ≠ .bad → runB 2 g_w_k00_flags ds ω = f_flags ds ω := by
  intro ds ω h
  unfold f_flags at h ⊢
  split at h
  · rename_i c fs
    by_cases hc : c ∈ vcs
    · rw [if_pos hc]
      have q := flags_run (fs := fs) (ω := ω) hc
      show (g_w_k00_flags [.val (.exc c fs), .emp] ω).bind _ = _
      rw [q]
      rfl
    · rw [if_neg hc] at h
      exact absurd rfl h
  · exact absurd rfl h
end K00

namespace K00
open PySem DL
/-! ### the errors that are made -/
def mkE (p : Str × Option Str) : EvE := match p.2 with
  | none => eOpN (gEx0 p.1) (aCons (eVar 3) aNil)
  | some f => eOpN (gEx1 p.1 f) (aCons (eVar 4) aNil)
def exD (v : D) (p : Str × Option Str) : D := .exc p.1 (match p.2 with
  | none => []
  | some f => [(f, v)])
def mkArgs : List (Str × Option Str) → EvA
  | [] => aNil
  | p :: r => aCons (mkE p) (mkArgs r)
theorem mkE_run {δ : Sls} {ω : Om} {t v : D} (h3 : δ[3]? = some (.val t)) (h4 : δ[4]? = some (.val v)) (p : Str × Option Str) : mkE p δ ω = .ok (exD v p) ω := by
  obtain ⟨c, f⟩ := p
  cases f with
  | none =>
    have e : gEx0 c [t] = some (.exc c []) := if_pos (by show (1 : Nat) ≤ 1000; decide)
    simp only [mkE, exD, eOpN, aCons, aNil, eVar, h3, Rs.bind_ok, e, rs1_some]
  | some f =>
    have e : gEx1 c f [v] = some (.exc c [(f, v)]) := rfl
    simp only [mkE, exD, eOpN, aCons, aNil, eVar, h4, Rs.bind_ok, e, rs1_some]
theorem mkArgs_run {δ : Sls} {ω : Om} {t v : D} (h3 : δ[3]? = some (.val t)) (h4 : δ[4]? = some (.val v)) : ∀ l : List (Str × Option Str), mkArgs l δ ω = .ok (l.map (exD v)) ω
  | [] => rfl
  | p :: r => by
    have ih := mkArgs_run (ω := ω) h3 h4 r
    simp only [mkArgs, aCons, mkE_run h3 h4 p, ih, Rs.bind_ok, List.map_cons]
def chainM : List (List (Str × Option Str)) → EvS → EvS
  | [], k => k
  | c :: cs, k => sSeq (sSet 6 (eOp2 gAdd (eVar 6) (eOpN gLst (mkArgs c)))) (chainM cs k)
section
variable {ns : List Int} {s2 s5 s7 s8 s9 s10 s11 : Sl} {t v : D} {ω : Om}
theorem chainM_run {k : EvS} : ∀ (ls : List (List (Str × Option Str))) (acc : List D), (∀ l ∈ ls, l.length ≤ 100) → acc.length + 100 * ls.length ≤ 10000 →
    chainM ls k [.val (.scr ns), .val .st, s2, .val t, .val v, s5, .val (.lst acc), s7, s8, s9, s10, s11] ω = k [.val (.scr ns), .val .st, s2, .val t, .val v, s5, .val (.lst (acc ++ ls.flatten.map (exD v))), s7, s8, s9, s10, s11] ω
  | [], acc, _, _ => by simp [chainM]
  | l :: r, acc, h, hl => by
    have h1 := h l List.mem_cons_self
    have hs : sizeLine = 16777216 := rfl
    simp only [List.length_cons] at hl
    have e1 := mkArgs_run (δ := [.val (.scr ns), .val .st, s2, .val t, .val v, s5, .val (.lst acc), s7, s8, s9, s10, s11]) (ω := ω) (t := t) (v := v) rfl rfl l
    have e2 : gLst (l.map (exD v)) = some (.lst (l.map (exD v))) := gLst_ok (by rw [List.length_map]; omega)
    have e3 : gAdd (.lst acc) (.lst (l.map (exD v))) = some (.lst (acc ++ l.map (exD v))) := gAdd_L (by rw [List.length_map]; omega)
    have ih := chainM_run (k := k) r (acc ++ l.map (exD v)) (fun x hx => h x (List.mem_cons_of_mem _ hx)) (by rw [List.length_append, List.length_map]; omega)
    have ef : (l :: r).flatten = l ++ r.flatten := rfl
    rw [ef, List.map_append, ← List.append_assoc, ← ih]
    have eg : chainM (l :: r) k = sSeq (sSet 6 (eOp2 gAdd (eVar 6) (eOpN gLst (mkArgs l)))) (chainM r k) := rfl
    rw [eg]
    simp only [sSeq, sSet, eOp2, eOpN, eVar, List.getElem?_cons_succ, List.getElem?_cons_zero, Rs.bind_ok, e1, e2, e3, rs1_some, List.set_cons_succ, List.set_cons_zero]
def items : List (Str × Option Str) := row0 ++ rowsM.flatten
/-! ### each of them has just its own flag -/
def boolsI (j : Nat) : List Bool := (List.range 60).map fun i => decide (i = j)
theorem items_len : items.length = 60 := by decide +kernel
theorem items_in : ∀ p ∈ items, p.1 ∈ vcs ∧ p.1 ∈ vcs := by decide +kernel
theorem items_flags : ∀ p ∈ items.zipIdx, (flagN.map fun n => decide (p.1.1 = n)) = boolsI p.2 := by decide +kernel
def cErr : EvT := DL.tB (eOp2 gNe (eCall f_flags (aCons (eVar 8) aNil)) (eComp (iRange (aCons (eOpN gLen (aCons (eVar 6) aNil)) aNil)) (gdName 9) tTrue (eOp2 gEq (eVar 9) (eVar 7)) [9]))
def cErr2 : EvT := tOr (tNot (DL.tB (eOpN (gIsE vcs) (aCons (eVar 8) (aCons (eC (.glo "LeafError")) aNil))))) (tNot (DL.tB (eOpN (gIsE vcs) (aCons (eVar 8) (aCons (eC (.ty "ValueError")) aNil)))))
def bErr : EvS := sSeq (sIf cErr (sRet (eC (.bl false))) sNext) (sIf cErr2 (sRet (eC (.bl false))) sNext)
theorem gEq_int (i j : Int) : gEq (.int i) (.int j) = some (.bl (decide (i = j))) := by
  have e : decide (L2.V.int i = L2.V.int j) = decide (i = j) := decide_eq_decide.mpr ⟨fun h => by cases h; rfl, fun h => by rw [h]⟩
  show (some (D.bl (decide (L2.V.int i = L2.V.int j)))).or _ = _
  rw [e]
  rfl
theorem comp_run {made : List D} {j : Nat} {e : D} (hm : made.length = 60) : eComp (iRange (aCons (eOpN gLen (aCons (eVar 6) aNil)) aNil)) (gdName 9) tTrue (eOp2 gEq (eVar 9) (eVar 7)) [9] [.val (.scr ns), .val .st, s2, .val t, .val v, s5, .val (.lst made), .val (.int (j : Nat)), .val e, s9, s10, s11] ω = .ok (.lst ((boolsI j).map .bl)) ω := by
  have e1 : gLen [.lst made] = some (.int (60 : Nat)) := by
    show some (D.int (made.length : Nat)) = _
    rw [hm]
  have e2 := range_run (k := 60) (fs := aCons (eOpN gLen (aCons (eVar 6) aNil)) aNil) (δ := [.val (.scr ns), .val .st, s2, .val t, .val v, s5, .val (.lst made), .val (.int (j : Nat)), .val e, s9, s10, s11]) (ω := ω) (ω' := ω) (by
    simp only [aCons, aNil, eOpN, eVar, List.getElem?_cons_succ, List.getElem?_cons_zero, Rs.bind_ok, e1, rs1_some]) (by decide)
  have e3 := compF_map (g := gdName 9) (fe := eOp2 gEq (eVar 9) (eVar 7)) (δ := [.val (.scr ns), .val .st, s2, .val t, .val v, s5, .val (.lst made), .val (.int (j : Nat)), .val e, .emp, s10, s11]) (ω := ω) (fun (i : Nat) => D.int (i : Nat)) (fun i => .bl (decide (i = j))) (List.range 60) (fun i _ => ⟨[.val (.scr ns), .val .st, s2, .val t, .val v, s5, .val (.lst made), .val (.int (j : Nat)), .val e, .val (.int (i : Nat)), s10, s11], rfl, by
    have e4 := gEq_int (i : Nat) (j : Nat)
    have e5 : decide (((i : Nat) : Int) = ((j : Nat) : Int)) = decide (i = j) := decide_eq_decide.mpr ⟨fun h => by omega, fun h => by omega⟩
    rw [e5] at e4
    simp only [eOp2, eVar, List.getElem?_cons_succ, List.getElem?_cons_zero, Rs.bind_ok, e4, rs1_some]⟩)
  have e6 : (boolsI j).map D.bl = (List.range 60).map fun i => .bl (decide (i = j)) := by
    unfold boolsI
    rw [List.map_map]
    rfl
  have e7 : wipeD [.val (.scr ns), .val .st, s2, .val t, .val v, s5, .val (.lst made), .val (.int (j : Nat)), .val e, s9, s10, s11] [9] = [.val (.scr ns), .val .st, s2, .val t, .val v, s5, .val (.lst made), .val (.int (j : Nat)), .val e, .emp, s10, s11] := rfl
  rw [e6]
  generalize (List.range 60).map (fun i => D.bl (decide (i = j))) = out at e3 ⊢
  generalize (List.range 60).map (fun (i : Nat) => D.int (i : Nat)) = rng at e2 e3
  simp only [eComp, e2, Rs.bind_ok, e7, e3, noErr]
theorem gNe_bools (bs : List Bool) : gNe (.lst (bs.map .bl)) (.lst (bs.map .bl)) = some (.bl false) := gNe_self D.bl PyData.bool (fun _ => rfl) (fun _ => rfl) (fun _ => rfl) bs
theorem isE_le {c : Str} {fs : List (Str × D)} (hc : c ∈ vcs) : gIsE vcs [.exc c fs, .glo "LeafError"] = some (.bl true) := by
  have e : gIsE vcs [.exc c fs, .glo "LeafError"] = if c ∈ vcs ∧ ("LeafError" : Str) ∈ vcs then some (.bl (decide (c = ("LeafError" : Str)) || decide (("LeafError" : Str) = "LeafError"))) else none := rfl
  rw [e, if_pos ⟨hc, le_in⟩, decide_eq_true rfl, Bool.or_true]
theorem isE_ve {c : Str} {fs : List (Str × D)} (hc : c ∈ vcs) : gIsE vcs [.exc c fs, .ty "ValueError"] = some (.bl true) := by
  have e : gIsE vcs [.exc c fs, .ty "ValueError"] = if c ∈ vcs ∧ ("ValueError" : String) = "ValueError" then some (.bl true) else none := rfl
  rw [e, if_pos ⟨hc, rfl⟩]
theorem bErr_run {made : List D} {p : Str × Option Str} {j : Nat} (hm : made.length = 60) (hp : (p, j) ∈ items.zipIdx) (hc : p.1 ∈ vcs) :
    bErr [.val (.scr ns), .val .st, s2, .val t, .val v, s5, .val (.lst made), .val (.int (j : Nat)), .val (exD v p), s9, s10, s11] ω = .ok (.nx [.val (.scr ns), .val .st, s2, .val t, .val v, s5, .val (.lst made), .val (.int (j : Nat)), .val (exD v p), s9, s10, s11]) ω := by
  have e1 : f_flags [exD v p] ω = .ok (.lst ((boolsI j).map .bl)) ω := by
    have q := items_flags (p, j) hp
    have q2 : flagN.map (fun n => D.bl (decide (p.1 = n))) = (boolsI j).map D.bl := by
      rw [← q, List.map_map]
      rfl
    show (if p.1 ∈ vcs then Rs.ok (D.lst (flagN.map fun n => .bl (decide (p.1 = n)))) ω else .bad) = _
    rw [if_pos hc, q2]
  have e2 := comp_run (ns := ns) (s2 := s2) (t := t) (v := v) (s5 := s5) (s9 := s9) (s10 := s10) (s11 := s11) (ω := ω) (e := exD v p) (j := j) hm
  have e3 := gNe_bools (boolsI j)
  have e4 : gIsE vcs [exD v p, .glo "LeafError"] = some (.bl true) := isE_le hc
  have e5 : gIsE vcs [exD v p, .ty "ValueError"] = some (.bl true) := isE_ve hc
  generalize exD v p = ex at e1 e2 e4 e5 ⊢
  generalize (boolsI j).map D.bl = bs at e1 e2 e3
  generalize hcomp : eComp (iRange (aCons (eOpN gLen (aCons (eVar 6) aNil)) aNil)) (gdName 9) tTrue (eOp2 gEq (eVar 9) (eVar 7)) [9] = comp at e2
  have c1 : cErr [.val (.scr ns), .val .st, s2, .val t, .val v, s5, .val (.lst made), .val (.int (j : Nat)), .val ex, s9, s10, s11] ω = .ok false ω := by
    simp only [cErr, hcomp, DL.tB, eOp2, eCall, aCons, aNil, eVar, List.getElem?_cons_succ, List.getElem?_cons_zero, Rs.bind_ok, e1, e2, e3, rs1_some]
  have c2 : cErr2 [.val (.scr ns), .val .st, s2, .val t, .val v, s5, .val (.lst made), .val (.int (j : Nat)), .val ex, s9, s10, s11] ω = .ok false ω := by
    simp only [cErr2, tOr, tNot, DL.tB, eOpN, aCons, aNil, eC, eVar, List.getElem?_cons_succ, List.getElem?_cons_zero, Rs.bind_ok, e4, e5, rs1_some, Bool.not_true, Bool.false_eq_true, if_false]
  simp only [bErr, sSeq, sIf, c1, c2, Rs.bind_ok, Bool.false_eq_true, if_false, sNext]
end
end K00

namespace K00
open PySem DL
theorem items_in2 : ∀ p ∈ items.zipIdx, p.1.1 ∈ vcs := by decide +kernel
section
variable {ns : List Int} {s2 s5 s7 s8 s9 s10 s11 : Sl} {t v : D} {ω : Om}
theorem lErr_run {made : List D} (hm : made.length = 60) : ∀ (l : List ((Str × Option Str) × Nat)) (s7 s8 : Sl), (∀ p ∈ l, p ∈ items.zipIdx) → ∃ t7 t8, loopF (gdTup2 7 8) bErr (l.map fun p => .tup [.int (p.2 : Nat), exD v p.1]) [.val (.scr ns), .val .st, s2, .val t, .val v, s5, .val (.lst made), s7, s8, s9, s10, s11] ω = .ok (.nx [.val (.scr ns), .val .st, s2, .val t, .val v, s5, .val (.lst made), t7, t8, s9, s10, s11]) ω
  | [], s7, s8, _ => ⟨s7, s8, rfl⟩
  | p :: r, s7, s8, h => by
    obtain ⟨p, j⟩ := p
    have hp := h (p, j) List.mem_cons_self
    obtain ⟨t7, t8, ih⟩ := lErr_run hm r (.val (.int (j : Nat))) (.val (exD v p)) fun q hq => h q (List.mem_cons_of_mem _ hq)
    have b := bErr_run (ns := ns) (s2 := s2) (t := t) (v := v) (s5 := s5) (s9 := s9) (s10 := s10) (s11 := s11) (ω := ω) hm hp (items_in2 (p, j) hp)
    refine ⟨t7, t8, ?_⟩
    rw [List.map_cons, loopF_step (δ1 := [.val (.scr ns), .val .st, s2, .val t, .val v, s5, .val (.lst made), .val (.int (j : Nat)), .val (exD v p), s9, s10, s11]) rfl b, ih]
/-! ### the base class -/
def cBase : EvT := tOr (DL.tB (eOp2 gInL (eC (.bl true)) (eCall f_flags (aCons (eVar 10) aNil)))) (tOr (tNot (DL.tB (eOpN (gIsE vcs) (aCons (eVar 10) (aCons (eC (.ty "ValueError")) aNil))))) (DL.tB (eIsVB (aCons (eVar 3) aNil))))
def bBase (k : EvS) : EvS := sSeq (sSet 10 (eOpN (gEx0 "LeafError") (aCons (eVar 3) aNil))) (sSeq (sIf cBase (sRet (eC (.bl false))) sNext) k)
def noFlags : List Bool := flagN.map fun n => decide (("LeafError" : Str) = n)
theorem noFlags_eq : noFlags = List.replicate 60 false := by decide +kernel
theorem gIn_false : gInL (.bl true) (.lst ((List.replicate 60 false).map D.bl)) = some (.bl false) := rfl
theorem bBase_run {k : EvS} {s6 : Sl} : bBase k [.val (.scr ns), .val .st, s2, .val t, .val v, s5, s6, s7, s8, s9, s10, s11] ω = k [.val (.scr ns), .val .st, s2, .val t, .val v, s5, s6, s7, s8, s9, .val (.exc "LeafError" []), s11] ω := by
  have e0 : gEx0 "LeafError" [t] = some (.exc "LeafError" []) := if_pos (by show (1 : Nat) ≤ 1000; decide)
  have e1 : f_flags [.exc "LeafError" []] ω = .ok (.lst ((List.replicate 60 false).map D.bl)) ω := by
    have q : flagN.map (fun n => D.bl (decide (("LeafError" : Str) = n))) = (List.replicate 60 false).map D.bl := by
      rw [← noFlags_eq]
      unfold noFlags
      rw [List.map_map]
      rfl
    show (if ("LeafError" : Str) ∈ vcs then Rs.ok (D.lst (flagN.map fun n => .bl (decide (("LeafError" : Str) = n)))) ω else .bad) = _
    rw [if_pos le_in, q]
  have e2 := gIn_false
  have e3 : gIsE vcs [.exc "LeafError" [], .ty "ValueError"] = some (.bl true) := isE_ve le_in
  have e4 : eIsVB (aCons (eVar 3) aNil) [.val (.scr ns), .val .st, s2, .val t, .val v, s5, s6, s7, s8, s9, .val (.exc "LeafError" []), s11] ω = .ok (.bl false) ω := by
    have q : ([t] : List D).length ≤ 1000 := by show (1 : Nat) ≤ 1000; decide
    simp only [eIsVB, aCons, aNil, eVar, List.getElem?_cons_succ, List.getElem?_cons_zero, Rs.bind_ok]
    exact if_pos q
  generalize (List.replicate 60 false).map D.bl = bs at e1 e2
  have c : cBase [.val (.scr ns), .val .st, s2, .val t, .val v, s5, s6, s7, s8, s9, .val (.exc "LeafError" []), s11] ω = .ok false ω := by
    generalize hvb : eIsVB (aCons (eVar 3) aNil) = vb at e4
    simp only [cBase, hvb, tOr, tNot, DL.tB, eOp2, eOpN, eCall, aCons, aNil, eC, eVar, List.getElem?_cons_succ, List.getElem?_cons_zero, Rs.bind_ok, e1, e2, e3, e4, rs1_some, Bool.not_true, Bool.false_eq_true, if_false]
  simp only [bBase, sSeq, sSet, sIf, eOpN, aCons, aNil, eVar, List.getElem?_cons_succ, List.getElem?_cons_zero, Rs.bind_ok, e0, rs1_some, List.set_cons_succ, List.set_cons_zero, c, Bool.false_eq_true, if_false, sNext]
/-! ### what the attributes are -/
def atArgs : List (Str × Str) → EvA
  | [] => aNil
  | p :: r => aCons (eAt p.1 p.2 (eOpN (gEx1 p.1 p.2) (aCons (eVar 4) aNil))) (atArgs r)
theorem atArgs_run {δ : Sls} {v : D} (h4 : δ[4]? = some (.val v)) : ∀ l : List (Str × Str), atArgs l δ ω = .ok (List.replicate l.length v) ω
  | [] => rfl
  | p :: r => by
    obtain ⟨c, f⟩ := p
    have ih := atArgs_run h4 r
    have e : gEx1 c f [v] = some (.exc c [(f, v)]) := rfl
    have ea : eAt c f (eOpN (gEx1 c f) (aCons (eVar 4) aNil)) δ ω = .ok v ω := by
      simp only [eAt, eOpN, aCons, aNil, eVar, h4, Rs.bind_ok, e, rs1_some, and_self, if_true]
    rw [List.length_cons, List.replicate_succ]
    simp only [atArgs, aCons, ea, ih, Rs.bind_ok]
def bTold (k : EvS) : EvS := sSeq (sSet 11 (eOpN gLst (atArgs told0))) (sSeq (sSet 11 (eOp2 gAdd (eVar 11) (eOpN gLst (atArgs told1)))) (sSeq (sSet 11 (eOp2 gAdd (eVar 11) (eOpN gLst (atArgs told2)))) k))
theorem bTold_run {k : EvS} {s6 : Sl} : bTold k [.val (.scr ns), .val .st, s2, .val t, .val v, s5, s6, s7, s8, s9, s10, s11] ω = k [.val (.scr ns), .val .st, s2, .val t, .val v, s5, s6, s7, s8, s9, s10, .val (.lst (List.replicate 18 v))] ω := by
  have a0 : ∀ s, atArgs told0 [.val (.scr ns), .val .st, s2, .val t, .val v, s5, s6, s7, s8, s9, s10, s] ω = .ok (List.replicate 6 v) ω := fun s => atArgs_run rfl told0
  have a1 : ∀ s, atArgs told1 [.val (.scr ns), .val .st, s2, .val t, .val v, s5, s6, s7, s8, s9, s10, s] ω = .ok (List.replicate 6 v) ω := fun s => atArgs_run rfl told1
  have a2 : ∀ s, atArgs told2 [.val (.scr ns), .val .st, s2, .val t, .val v, s5, s6, s7, s8, s9, s10, s] ω = .ok (List.replicate 6 v) ω := fun s => atArgs_run rfl told2
  have l0 : gLst (List.replicate 6 v) = some (.lst (List.replicate 6 v)) := gLst_ok (by rw [List.length_replicate]; decide)
  have p1 : gAdd (.lst (List.replicate 6 v)) (.lst (List.replicate 6 v)) = some (.lst (List.replicate 12 v)) := by
    rw [gAdd_L (by rw [List.length_replicate]; decide), List.replicate_append_replicate]
  have p2 : gAdd (.lst (List.replicate 12 v)) (.lst (List.replicate 6 v)) = some (.lst (List.replicate 18 v)) := by
    rw [gAdd_L (by rw [List.length_replicate, List.length_replicate]; decide), List.replicate_append_replicate]
  generalize List.replicate 6 v = r6 at a0 a1 a2 l0 p1 p2
  generalize List.replicate 12 v = r12 at p1 p2
  generalize List.replicate 18 v = r18 at p2 ⊢
  simp only [bTold, sSeq, sSet, eOp2, eOpN, eVar, List.getElem?_cons_succ, List.getElem?_cons_zero, Rs.bind_ok, a0, a1, a2, l0, p1, p2, rs1_some, List.set_cons_succ, List.set_cons_zero]
/-! ### repr -/
def reprOk (n : Nat) : Bool := (PyData.list (List.replicate 18 (PyData.int n))).showable && (!(PyData.list (List.replicate 18 (PyData.int n))).hasDict && (decide ((PyData.list (List.replicate 18 (PyData.int n))).depth ≤ 60) && decide ((PyData.list (List.replicate 18 (PyData.int n))).shown.length ≤ sizeLine)))
theorem repr_all : ∀ n < 100, reprOk n = true := by decide +kernel
theorem repr_run {n : Nat} (hn : n < 100) : ∃ x, gRepr [.lst (List.replicate 18 (.int (n : Nat)))] = some (.str x) := by
  have q := repr_all n hn
  unfold reprOk at q
  simp only [Bool.and_eq_true, Bool.not_eq_true', decide_eq_true_eq] at q
  obtain ⟨h1, h2, h3, h4⟩ := q
  have e1 : toPy (.lst (List.replicate 18 (.int (n : Nat)))) = some (.list (List.replicate 18 (PyData.int (n : Nat)))) := by
    have z := toPyL_map (fun _ : Nat => D.int (n : Nat)) (fun _ => PyData.int (n : Nat)) (fun _ => rfl) (List.range 18)
    show (toPy.toPyL (List.replicate 18 (.int (n : Nat)))).map PyData.list = _
    have r1 : (List.range 18).map (fun _ : Nat => D.int (n : Nat)) = List.replicate 18 (D.int (n : Nat)) := rfl
    have r2 : (List.range 18).map (fun _ : Nat => PyData.int (n : Nat)) = List.replicate 18 (PyData.int (n : Nat)) := rfl
    rw [r1, r2] at z
    rw [z]
    rfl
  refine ⟨(PyData.list (List.replicate 18 (PyData.int (n : Nat)))).shown, ?_⟩
  have e2 : gRepr [.lst (List.replicate 18 (.int (n : Nat)))] = (toPy (.lst (List.replicate 18 (.int (n : Nat))))).bind fun p => if isRefD (.lst (List.replicate 18 (.int (n : Nat)))) = true ∧ p.showable = true ∧ p.hasDict = false ∧ p.depth ≤ 60 ∧ p.shown.length ≤ sizeLine then some (.str p.shown) else none := rfl
  rw [e2, e1, Option.bind_some, if_pos ⟨rfl, h1, h2, h3, h4⟩]
theorem gNe_str (x : Str) : gNe (.str x) (.str x) = some (.bl false) := by
  show (some (D.bl (!decide (L2.V.str x = L2.V.str x)))).or _ = _
  rw [decide_eq_true rfl]
  rfl
def cLast : EvT := DL.tB (eOp2 gNe (eOpN gRepr (aCons (eVar 11) aNil)) (eOpN gRepr (aCons (eOp2 gRepL (eOpN gLst (aCons (eVar 4) aNil)) (eC (.int 18))) aNil)))
def bLast : EvS := sIf cLast (sRet (eC (.bl false))) sNext
theorem bLast_run {s6 : Sl} {n : Nat} (hn : n < 100) : bLast [.val (.scr ns), .val .st, s2, .val t, .val (.int (n : Nat)), s5, s6, s7, s8, s9, s10, .val (.lst (List.replicate 18 (.int (n : Nat))))] ω = .ok (.nx [.val (.scr ns), .val .st, s2, .val t, .val (.int (n : Nat)), s5, s6, s7, s8, s9, s10, .val (.lst (List.replicate 18 (.int (n : Nat))))]) ω := by
  obtain ⟨x, hx⟩ := repr_run hn
  have e1 : gLst [D.int (n : Nat)] = some (.lst [.int (n : Nat)]) := gLst_ok (by show (1 : Nat) ≤ sizeLine; decide)
  have e2 : gRepL (.lst [D.int (n : Nat)]) (.int 18) = some (.lst (List.replicate 18 (.int (n : Nat)))) := by
    have q : (0 : Int) ≤ 18 ∧ (18 : Int) < 2 ^ 63 ∧ ([D.int (n : Nat)] : List D).length * (18 : Int).toNat ≤ sizeLine := ⟨by decide, by decide, by show 1 * 18 ≤ sizeLine; decide⟩
    show (if (0 : Int) ≤ 18 ∧ (18 : Int) < 2 ^ 63 ∧ ([D.int (n : Nat)] : List D).length * (18 : Int).toNat ≤ sizeLine then some (D.lst (List.replicate (18 : Int).toNat [D.int (n : Nat)]).flatten) else none) = _
    rw [if_pos q]
    rfl
  have e3 := gNe_str x
  generalize List.replicate 18 (D.int (n : Nat)) = r at hx e2 ⊢
  have c : cLast [.val (.scr ns), .val .st, s2, .val t, .val (.int (n : Nat)), s5, s6, s7, s8, s9, s10, .val (.lst r)] ω = .ok false ω := by
    simp only [cLast, DL.tB, eOp2, eOpN, aCons, aNil, eC, eVar, List.getElem?_cons_succ, List.getElem?_cons_zero, Rs.bind_ok, e1, e2, hx, e3, rs1_some]
  simp only [bLast, sIf, c, Rs.bind_ok, Bool.false_eq_true, if_false, sNext]
/-! ### a turn -/
def parA : EvA := aCons (eCall pickF (aCons (eVar 1) (aCons (eOpN gLst (aCons (eC (.str "")) (aCons (eC (.str "a")) (aCons (eC (.str "no row")) aNil)))) aNil))) (aCons (eCall drawF (aCons (eVar 1) (aCons (eC (.int 100)) aNil))) (aCons (eCall drawF (aCons (eVar 1) (aCons (eC (.int 100)) aNil))) aNil))
def rest : EvS := sSeq (sFor (iEnumL (aCons (eVar 6) aNil)) (gdTup2 7 8) bErr) (bBase (bTold bLast))
def bTurn : EvS := sSeq (sPar3 3 4 5 parA) (sSeq (sSet 6 (eOpN gLst (mkArgs row0))) (chainM rowsM rest))
theorem g_law_eq : g_law = sSeq (sFor (iRange (aCons (eOp2 gAdd (eC (.int 1)) (eOpN gMin2 (aCons (eOpN gLen (aCons (eVar 0) aNil)) (aCons (eC (.int 3)) aNil)))) aNil)) (gdName 2) bTurn) (sRet (eC (.bl true))) := rfl
end
end K00

namespace K00
open PySem DL
theorem numbered_items (v : D) : DL.numbered (items.map (exD v)) = items.zipIdx.map fun p => .tup [.int (p.2 : Nat), exD v p.1] := by
  unfold DL.numbered
  rw [List.zipIdx_map, List.map_map]
  rfl
theorem rows_len : row0.length ≤ 100 ∧ (∀ l ∈ rowsM, l.length ≤ 100) ∧ rowsM.length = 9 := by decide +kernel
section
variable {ns : List Int} {s2 s3 s4 s5 s6 s7 s8 s9 s10 s11 : Sl} {t v : D} {ω : Om} {b : Int}
theorem parA_run {δ : Sls} (h1 : δ[1]? = some (.val .st)) (h : Tb b ω) (hb : b < 2 ^ 30) : ∃ t, ∃ n m : Nat, ∃ ω', parA δ ω = .ok [t, .int (n : Nat), .int (m : Nat)] ω' ∧ n < 100 ∧ Tb (b + 3) ω' := by
  have e0 : gLst [D.str "", .str "a", .str "no row"] = some (.lst [.str "", .str "a", .str "no row"]) := gLst_ok (by show (3 : Nat) ≤ sizeLine; decide)
  obtain ⟨t, ω1, p1, p2, p3⟩ := pick_step (d := .lst [.str "", .str "a", .str "no row"]) (xs := [.str "", .str "a", .str "no row"]) rfl h (by omega) (by decide) (by decide)
  obtain ⟨n, ω2, q1, q2, q3⟩ := draw_step (n := 100) p3 (by omega) (by decide) (by decide)
  obtain ⟨m, ω3, r1, r2, r3⟩ := draw_step (n := 100) q3 (by omega) (by decide) (by decide)
  refine ⟨t, n, m, ω3, ?_, by omega, r3.le (by omega)⟩
  simp only [parA, eCall, aCons, aNil, eOpN, eC, eVar, h1, Rs.bind_ok, e0, rs1_some, p1, q1, r1]
theorem rest_run {n : Nat} (hn : n < 100) : ∃ t7 t8 t10 t11, rest [.val (.scr ns), .val .st, s2, .val t, .val (.int (n : Nat)), s5, .val (.lst (items.map (exD (.int (n : Nat))))), s7, s8, s9, s10, s11] ω = .ok (.nx [.val (.scr ns), .val .st, s2, .val t, .val (.int (n : Nat)), s5, .val (.lst (items.map (exD (.int (n : Nat))))), t7, t8, s9, t10, t11]) ω := by
  have hm : (items.map (exD (.int (n : Nat)))).length = 60 := by rw [List.length_map]; exact items_len
  obtain ⟨t7, t8, h1⟩ := lErr_run (ns := ns) (s2 := s2) (s5 := s5) (s9 := s9) (s10 := s10) (s11 := s11) (t := t) (v := .int (n : Nat)) (ω := ω) hm items.zipIdx s7 s8 fun p hp => hp
  rw [← numbered_items] at h1
  have h2 := bBase_run (ns := ns) (s2 := s2) (s5 := s5) (s7 := t7) (s8 := t8) (s9 := s9) (s10 := s10) (s11 := s11) (t := t) (v := .int (n : Nat)) (ω := ω) (k := bTold bLast) (s6 := .val (.lst (items.map (exD (.int (n : Nat))))))
  have h3 := bTold_run (ns := ns) (s2 := s2) (s5 := s5) (s7 := t7) (s8 := t8) (s9 := s9) (s10 := .val (.exc "LeafError" [])) (s11 := s11) (t := t) (v := .int (n : Nat)) (ω := ω) (k := bLast) (s6 := .val (.lst (items.map (exD (.int (n : Nat))))))
  have h4 := bLast_run (ns := ns) (s2 := s2) (s5 := s5) (s7 := t7) (s8 := t8) (s9 := s9) (s10 := .val (.exc "LeafError" [])) (t := t) (ω := ω) (s6 := .val (.lst (items.map (exD (.int (n : Nat)))))) hn
  refine ⟨t7, t8, .val (.exc "LeafError" []), .val (.lst (List.replicate 18 (.int (n : Nat)))), ?_⟩
  generalize items.map (exD (.int (n : Nat))) = made at *
  rw [h3, h4] at h2
  have e : iEnumL (aCons (eVar 6) aNil) [.val (.scr ns), .val .st, s2, .val t, .val (.int (n : Nat)), s5, .val (.lst made), s7, s8, s9, s10, s11] ω = Rs.ok (DL.numbered made) ω := by
    simp only [iEnumL, aCons, aNil, eVar, List.getElem?_cons_succ, List.getElem?_cons_zero, Rs.bind_ok]
  have q : rest = sSeq (sFor (iEnumL (aCons (eVar 6) aNil)) (gdTup2 7 8) bErr) (bBase (bTold bLast)) := rfl
  rw [q, sSeq_run ((sFor_run e).trans h1)]
  exact h2
theorem bTurn_run (h : Tb b ω) (hb : b < 2 ^ 30) : ∃ t3 t4 t5 t6 t7 t8 t9 t10 t11, ∃ ω', bTurn [.val (.scr ns), .val .st, s2, s3, s4, s5, s6, s7, s8, s9, s10, s11] ω = .ok (.nx [.val (.scr ns), .val .st, s2, t3, t4, t5, t6, t7, t8, t9, t10, t11]) ω' ∧ Tb (b + 3) ω' := by
  obtain ⟨t, n, m, ω1, h1, h2, h3⟩ := parA_run (δ := [.val (.scr ns), .val .st, s2, s3, s4, s5, s6, s7, s8, s9, s10, s11]) rfl h hb
  obtain ⟨r1, r2, r3⟩ := rows_len
  have e1 := mkArgs_run (δ := [.val (.scr ns), .val .st, s2, .val t, .val (.int (n : Nat)), .val (.int (m : Nat)), s6, s7, s8, s9, s10, s11]) (ω := ω1) (t := t) (v := .int (n : Nat)) rfl rfl row0
  have hs : sizeLine = 16777216 := rfl
  have e2 := eLst_run e1 (by rw [List.length_map]; omega)
  have e3 := chainM_run (ns := ns) (s2 := s2) (s5 := .val (.int (m : Nat))) (s7 := s7) (s8 := s8) (s9 := s9) (s10 := s10) (s11 := s11) (t := t) (v := .int (n : Nat)) (ω := ω1) (k := rest) rowsM (row0.map (exD (.int (n : Nat)))) r2 (by rw [List.length_map]; omega)
  obtain ⟨t7, t8, t10, t11, e4⟩ := rest_run (ns := ns) (s2 := s2) (s5 := .val (.int (m : Nat))) (s7 := s7) (s8 := s8) (s9 := s9) (s10 := s10) (s11 := s11) (t := t) (ω := ω1) h2
  have ei : items.map (exD (.int (n : Nat))) = row0.map (exD (.int (n : Nat))) ++ rowsM.flatten.map (exD (.int (n : Nat))) := by
    unfold items
    rw [List.map_append]
  rw [ei] at e4
  refine ⟨.val t, .val (.int (n : Nat)), .val (.int (m : Nat)), .val (.lst (row0.map (exD (.int (n : Nat))) ++ rowsM.flatten.map (exD (.int (n : Nat))))), t7, t8, s9, t10, t11, ω1, ?_, h3⟩
  have q : bTurn = sSeq (sPar3 3 4 5 parA) (sSeq (sSet 6 (eOpN gLst (mkArgs row0))) (chainM rowsM rest)) := rfl
  have p1 := sPar3_run (i := 3) (j := 4) (l := 5) h1
  have p2 := sSet_run (i := 6) e2
  rw [q, sSeq_run p1]
  have p3 := (sSeq_run (b := chainM rowsM rest) p2).trans (e3.trans e4)
  exact p3
theorem lTurn_run : ∀ (ds : List D) (s2 s3 s4 s5 s6 s7 s8 s9 s10 s11 : Sl) (b : Int) (ω : Om), Tb b ω → b + 3 * ds.length < 2 ^ 30 → ∃ δ' ω', loopF (gdName 2) bTurn ds [.val (.scr ns), .val .st, s2, s3, s4, s5, s6, s7, s8, s9, s10, s11] ω = .ok (.nx δ') ω' := by
  intro ds
  induction ds with
  | nil => exact fun s2 s3 s4 s5 s6 s7 s8 s9 s10 s11 b ω h _ => ⟨_, ω, rfl⟩
  | cons d r ih =>
    intro s2 s3 s4 s5 s6 s7 s8 s9 s10 s11 b ω h hb
    rw [List.length_cons] at hb
    obtain ⟨t3, t4, t5, t6, t7, t8, t9, t10, t11, ω1, h1, h2⟩ := bTurn_run (ns := ns) (s2 := .val d) (s3 := s3) (s4 := s4) (s5 := s5) (s6 := s6) (s7 := s7) (s8 := s8) (s9 := s9) (s10 := s10) (s11 := s11) h (by omega)
    obtain ⟨δ', ω2, h3⟩ := ih (.val d) t3 t4 t5 t6 t7 t8 t9 t10 t11 (b + 3) ω1 h2 (by omega)
    refine ⟨δ', ω2, ?_⟩
    rw [loopF_step (δ1 := [.val (.scr ns), .val .st, .val d, s3, s4, s5, s6, s7, s8, s9, s10, s11]) rfl h1, h3]
end
theorem turns_run {ns : List Int} {δ : Sls} {ω : Om} (h0 : δ[0]? = some (.val (.scr ns))) (hn : ns.length ≤ 63) : ∃ k : Nat, k ≤ 4 ∧ iRange (aCons (eOp2 gAdd (eC (.int 1)) (eOpN gMin2 (aCons (eOpN gLen (aCons (eVar 0) aNil)) (aCons (eC (.int 3)) aNil)))) aNil) δ ω = .ok ((List.range k).map fun (j : Nat) => D.int (j : Nat)) ω := by
  have e1 : gLen [.scr ns] = some (.int (ns.length : Nat)) := rfl
  have e2 : gMin2 [.int (ns.length : Nat), .int 3] = some (.int (if (3 : Int) < ((ns.length : Nat) : Int) then 3 else ((ns.length : Nat) : Int))) := rfl
  have e3 : ∀ j : Int, gAdd (.int 1) (.int j) = some (.int (1 + j)) := fun j => rfl
  have e4 : (1 : Int) + (if (3 : Int) < ((ns.length : Nat) : Int) then 3 else ((ns.length : Nat) : Int)) = ((1 + (if 3 < ns.length then 3 else ns.length) : Nat) : Int) := by
    split <;> split <;> omega
  have e5 := e3 (if (3 : Int) < ((ns.length : Nat) : Int) then 3 else ((ns.length : Nat) : Int))
  rw [e4] at e5
  refine ⟨1 + (if 3 < ns.length then 3 else ns.length), by split <;> omega, ?_⟩
  have hk : (1 + (if 3 < ns.length then 3 else ns.length) : Nat) ≤ 4 := by split <;> omega
  generalize (1 + (if 3 < ns.length then 3 else ns.length) : Nat) = k at e5 hk ⊢
  generalize (if (3 : Int) < ((ns.length : Nat) : Int) then 3 else ((ns.length : Nat) : Int)) = j at e2 e5
  refine range_run (k := k) ?_ (by omega)
  · simp only [aCons, aNil, eOp2, eOpN, eC, eVar, h0, Rs.bind_ok, e1, e2, e5, rs1_some]
theorem law_true (ns : List Int) (hn : ns.length ≤ 63) : ∃ ω', g_law (.val (.scr ns) :: .val .st :: List.replicate 10 .emp) (om0 ns) = .ok (.rt (.bl true)) ω' := by
  have h : Tb 0 (om0 ns) := ⟨Int.le_refl _, Int.le_refl _⟩
  have er : (Sl.val (.scr ns) :: .val .st :: List.replicate 10 .emp) = [.val (.scr ns), .val .st, .emp, .emp, .emp, .emp, .emp, .emp, .emp, .emp, .emp, .emp] := rfl
  rw [er, g_law_eq]
  obtain ⟨k, hk, h1⟩ := turns_run (ns := ns) (δ := [.val (.scr ns), .val .st, .emp, .emp, .emp, .emp, .emp, .emp, .emp, .emp, .emp, .emp]) (ω := om0 ns) rfl hn
  obtain ⟨δ', ω', h2⟩ := lTurn_run (ns := ns) ((List.range k).map fun (j : Nat) => D.int (j : Nat)) .emp .emp .emp .emp .emp .emp .emp .emp .emp .emp 0 (om0 ns) h (by rw [List.length_map, List.length_range]; omega)
  refine ⟨ω', ?_⟩
  have f : sFor (iRange (aCons (eOp2 gAdd (eC (.int 1)) (eOpN gMin2 (aCons (eOpN gLen (aCons (eVar 0) aNil)) (aCons (eC (.int 3)) aNil)))) aNil)) (gdName 2) bTurn [.val (.scr ns), .val .st, .emp, .emp, .emp, .emp, .emp, .emp, .emp, .emp, .emp, .emp] (om0 ns) = .ok (.nx δ') ω' := by
    rw [sFor_run h1]
    exact h2
  rw [sSeq_run f]
  rfl
theorem law_all {w : World} {K : PySem.W.Frag} {mg : Str → Option Value} {base : Heap} (fx : Fx w K mg base) (hB : ∃ fd, L2.FnOk Pr w K mg base (L2.CX Pr w) 1 (He.ga K "_law_begun") fd ["script"] (spBegun K (TT K)) ∧ L2.Binds K fd ["script"] [] ∧ PySem.W.keepIn K (.ref (He.ga K "_law_begun")) = true) : ∀ fd, L2.FunD K "law" "law" (L2.defArgs t_law) (L2.defBody t_law) (L2.defScope t_law) [] [] (He.ga K "law") fd → FnG Pr w K mg base (L2.CX Pr w) 4 (He.ga K "law") fd ["script"] (spLaw K (TT K) 10 g_law) := by
  have b1 := (r_w_blended fx).as blendF_ok
  have b2 := (r_w_draw fx b1).as drawF_ok
  have b3 := (r_w_pick fx b2).as pickF_ok
  have c1 := (r_w_k00_flags fx).as flags_ok
  exact r_law fx hB b2 c1 b3
end K00

namespace K00
open PySem PySem.Spec PyProof.Rows L2 LamX DL
theorem fx_of {w : World} {K : PySem.W.Frag} {h : Heap} {mg : Str → Option Value} {base : Heap} (X : K.In h) (G : h.Ns mainGlobals mg) (c : He.SaysX fa fn [] tf ex w h K) (tb : ∀ p ∈ tf.map (He.cT K), TabB base mg p.1 p.2) (nt : NoThird base) : Fx w K mg base := by
  have c1 := c.t.d
  have e1 := He.ba c.more
  have e2 := He.ba e1.2
  have e3 := He.ba e2.2
  have nd : (tf.map fun p => (He.cT K p).2).Nodup := of_decide_eq_true e3.1
  have e4 := He.ba e3.2
  have e5 := He.ba e4.2
  have e6 := He.ba e5.2
  refine ⟨c1.def_ 0 (d := d_w_begun) rfl, He.glo_ok X G (c1.fact 0 (f := .glo "_law_begun") rfl), c1.def_ 1 (d := d_w_blended) rfl, He.glo_ok X G (c1.fact 1 (f := .glo "_law_blended") rfl), c1.def_ 2 (d := d_w_draw) rfl, He.glo_ok X G (c1.fact 2 (f := .glo "_law_draw") rfl), c1.def_ 3 (d := d_w_pick) rfl, He.glo_ok X G (c1.fact 3 (f := .glo "_law_pick") rfl), c1.def_ 4 (d := d_w_k00_flags) rfl, He.glo_ok X G (c1.fact 4 (f := .glo "_law_k00_flags") rfl), c1.def_ 5 (d := d_law) rfl, He.glo_ok X G (c1.fact 5 (f := .glo "law") rfl), He.glo_ok X G (c1.fact 6 (f := .glo "LeafError") rfl), He.free_ok X G (c1.fact 7 (f := .free "ValueError") rfl), He.free_ok X G (c1.fact 8 (f := .free "abs") rfl), He.free_ok X G (c1.fact 9 (f := .free "enumerate") rfl), He.free_ok X G (c1.fact 10 (f := .free "int") rfl), He.free_ok X G (c1.fact 11 (f := .free "isinstance") rfl), He.free_ok X G (c1.fact 12 (f := .free "len") rfl), He.free_ok X G (c1.fact 13 (f := .free "min") rfl), He.free_ok X G (c1.fact 14 (f := .free "range") rfl), He.free_ok X G (c1.fact 15 (f := .free "repr") rfl), He.free_ok X G (c1.fact 16 (f := .free "super") rfl), nt, e4.1, e5.1, fun d hd => ?v0, fun d hd => ?v1, e1.1, e2.1, isx_of fun d hd => ?isx⟩
  case v0 =>
    have q := He.ba (List.all_eq_true.mp e6.1 d hd)
    exact ⟨He.glo_ok X G q.1, (He.exc_ok q.2).1, (He.exc_ok q.2).2.1⟩
  case v1 =>
    have q := He.ba (List.all_eq_true.mp e6.2 d hd)
    have q2 := He.ba q.2
    exact ⟨He.glo_ok X G q.1, iniB_ok q2.1, L2.xfB_ok q2.2⟩
  case isx =>
    · cases hd
theorem begun {w : World} {K : PySem.W.Frag} {mg : Str → Option Value} {base : Heap} (fx : Fx w K mg base) : ∃ fd, FnOk Pr w K mg base (L2.CX Pr w) 1 (He.ga K "_law_begun") fd ["script"] (spBegun K (TT K)) ∧ Binds K fd ["script"] [] ∧ PySem.W.keepIn K (.ref (He.ga K "_law_begun")) = true := by
  obtain ⟨fd, F⟩ := fx.f_w_begun
  have sc : FnScope ["script", "great", "cell"] ["script"] (defScope t_w_begun) := ⟨rfl, rfl, rfl, by decide +kernel, rfl, by decide +kernel, by decide +kernel⟩
  refine ⟨fd, begun_ok (k := 0) (T := TT K) (fun_of F) sc (.inl rfl) (fun cdv A outer s H E hr tk => ?_), FunD.bindsN F (fun _ _ _ _ _ _ us hl => match us, hl with | [_], _ => rfl), F.kp⟩
  refine ⟨_, _, _, _, _, _, _, _, _, _, _, rfl, ?_, ?_⟩
  · exact sd_newLc (i := 1) rfl sc.nd rfl rfl (by first | rfl | exact sw_true rfl rfl rfl rfl) (id_lst (pd_var 0)) (blkOk_by (own := [("cell", 2)]) (by kernel_rfl)) (fun p => gd_name (i := 2) sc.nd rfl (by first | exact .inl rfl | exact .inr rfl)) (fun p => (tsd_one (td_cmp op_ge o_ge (by first | exact nobehind _ (by decide) (by decide) | rfl) (pd_callB call_abs o_abs fx.n_abs (by decide +kernel) (ad_cons (pd_var 2) ad_nil)) (pd_op op_pow o_pow pd_int pd_int)))) (fun p => pd_op op_sub o_sub (pd_callB call_abs o_abs fx.n_abs (by decide +kernel) (ad_cons (pd_var 2) ad_nil)) (pd_op op_pow o_pow pd_int pd_int))
  · exact lc_new (W := ⟨E, PN⟩) rfl sc.nd (id_lst (pd_var 0)) (blkOk_by (own := [("cell", 2)]) (by kernel_rfl)) (fun p => gd_name (i := 2) sc.nd rfl (by first | exact .inl rfl | exact .inr rfl)) (fun p => tsd_nil) (fun p => pd_callB call_abs o_abs fx.n_abs (by decide +kernel) (ad_cons (pd_var 2) ad_nil))
theorem lawAt (hlaw : ∀ {w : World} {K : PySem.W.Frag} {mg : Str → Option Value} {base : Heap}, Fx w K mg base → ∀ fd, FunD K "law" "law" (defArgs t_law) (defBody t_law) (defScope t_law) [] [] (He.ga K "law") fd → FnG Pr w K mg base (L2.CX Pr w) 4 (He.ga K "law") fd ["script"] (spLaw K (TT K) 10 g_law))
    (math : ∀ ns : List Int, ns.length ≤ 63 → ∃ ω', g_law (.val (.scr ns) :: .val .st :: List.replicate 10 .emp) (om0 ns) = .ok (.rt (.bl true)) ω') {w : World} {K : PySem.W.Frag} {h : Heap} {mg : Str → Option Value} {f : Addr} (X : K.In h) (G : h.Ns mainGlobals mg) (hfa : mg ("law" : Str) = some (.ref f)) (c : He.SaysX fa fn [] tf ex w h K) :
    ∃ (fd : FuncData) (sp : Sp), (∀ (s : Shared) (u : Value), BindsTo s fd ⟨[u], []⟩ [("script", u)]) ∧ (∀ (H : Hp) (a : Addr) (ns : List Int), ns.length ≤ 63 → SqL K H a (ns.map V.int) → sp [.ref a] H (fun v _ => v = .bl true) fun _ _ _ => False) ∧
      ∀ base : Heap, K.In base → base.Ns mainGlobals mg → NoThird base → FnG PySem.Challenge.pw_sureleaves_k00_errors_apart w K mg base (L2.CX Pr w) 4 f fd ["script"] sp := by
  obtain ⟨fd, F⟩ := c.t.d.def_ 5 (d := d_law) rfl
  have e : f = He.ga K "law" := by
    have q := hfa.symm.trans (He.glo_ok X G (c.t.d.fact 5 (f := .glo "law") rfl))
    exact Value.ref.inj (Option.some.inj q)
  subst e
  have b := FunD.bindsA (ps := ["script"]) F fun _ _ _ _ _ _ us hl => match us, hl with | [_], _ => rfl
  exact ⟨fd, spLaw K (TT K) 10 g_law, fun s u => b s [u] rfl, fun H a ns hl hS => ⟨a, ns, rfl, hS, Nat.le_trans hl (by decide), tabs_new (fun p hp => nomatch (show p ∈ ([] : List (Addr × Str)) from hp)), math ns hl, fun _ => rfl⟩, fun base hb hns nt => hlaw (fx_of X G c (fun p hp => nomatch (show p ∈ ([] : List (Addr × Addr)) from hp)) nt) fd F⟩
end K00
open PySem PySem.W PySem.Calls PyProof.Rows
theorem PySem.Challenge.cw_sureleaves_k00_errors_apart_holds : PySem.Challenge.rw_sureleaves_k00_errors_apart.Holds := by
  w_on; o_law
  refine HandSHeadRun.head_any (r := OpenLaw.row PySem.Challenge.rw_sureleaves_k00_errors_apart) (q := view (OpenLaw.row PySem.Challenge.rw_sureleaves_k00_errors_apart).prog [68]) (H := K00.hk) (ob := K00.ob) (M := 30000) (loose := K00.loose) (d := HandSHeadRun.topDef (OpenLaw.row PySem.Challenge.rw_sureleaves_k00_errors_apart).prog 68) (kwd := []) K00.ob_eq
    (by kernel_rfl) (fun s => by kernel_rfl) K00.run (by kernel_rfl) (by kernel_rfl) (by kernel_rfl) (by rfl) (by first | assumption | decide +kernel) (by decide +kernel) ⟨rfl, rfl, rfl, rfl, rfl, by decide +kernel⟩ ?hw ?hc
  case hw => w_witness2
  case hc =>
    refine DL.walk_ofG (l := PySem.Challenge.rw_sureleaves_k00_errors_apart) (n := 63) (k := 4) (x := "script") (CX := fun w => L2.CX (PySem.Challenge.rw_sureleaves_k00_errors_apart).prog w) rfl (by decide) (by kernel_rfl) ⟨rfl, by decide, by decide⟩ ?F (fun w H s e s' z => by obtain ⟨_, _, _, _, _, _, _, _, _, _, _, _, q⟩ := z; exact q.elim)
    intro w mg fa h Y G hmg0
    obtain ⟨⟨K, KX, c⟩, nt⟩ := Y
    have hmg : mg ("law" : PySem.Str) = some (.ref fa) := by
      have e : (HandSHeadRun.topDef (OpenLaw.row PySem.Challenge.rw_sureleaves_k00_errors_apart).prog 68).name = ("law" : PySem.Str) := by kernel_rfl
      rw [← e]
      exact hmg0
    exact ⟨K, KX, nt, K00.lawAt (fun fx => K00.law_all fx (K00.begun fx)) K00.law_true KX G hmg c⟩

