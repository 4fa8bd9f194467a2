import PyProof.Rows.All
import Wide.All
import OpenK.AllK
import Wide.FinOn
import HandS.ForMost
import HandS.ForExc
import HandS.Lambda
import HandS.ExcInit
import HandS.ExcValue
import HandS.Flow
import HandS.TupAny
import HandS.Deep
import HandS.StrMore
import HandS.IsInst
import HandS.Text
import HandS.RaiseMore
import HandS.More
import HandS.WordsDict
import HandS.ForList
import HandS.Iter
import HandS.Words
import HandS.WordsExc
import HandS.Codes
import HandS.Zip
import HandS.WrittenGet
import HandS.Small
import HandS.Conv
import HandS.ExcField
import HandS.TryMany
import HandS.HeadHook1
import HandS.HeadHook2
import HandS.HeadHook3
import HandS.HeadHook4
import HandS.EndTab
import HandS.ExcIs
import KE.KExcIs
import KE.KIsAll
import HandS.Head0
import HandS.Head1
import HandS.Head2
import HandS.HeadEnd
import HandS.HeadWalk
import HandS.HotCalls
import HandS.ExcInitHot
import HandS.ExcCtx
import HandS.DictComp
import PySem.Challenge.RW_runorproof_k00_errors_made

-- text TL1
section
set_option Elab.async false
set_option linter.all false
set_option maxRecDepth 100000
set_option maxHeartbeats 4000000
/-! The tree layer, part 1: data as trees, what a heap bears. -/
namespace TL
open PySem PySem.Spec PyProof.Rows L2

/-! ### trees -/
inductive D where
  | non | bl (b : Bool) | int (i : Int) | str (s : Str)
  | tup (xs : List D)
  /-- a list; o: it is owned (may be changed through the one road to it) -/
  | lst (o : Bool) (xs : List D)
  | dct (o : Bool) (kvs : List (Key × D))
  | obj (o : Bool) (c : Str) (fs : List (Str × D))
  /-- an exception of the program's class c -/
  | exn (c : Str) (fs : List (Str × D))
  /-- what a name of the module stands for -/
  | fn (x : Str)
  /-- proofs alone: just this value; an owned object of any content; any value -/
  | hole (v : V) | raw | junk
  /-- proofs alone: the value v itself, and what it is -/
  | al (v : V) (d : D)
  /-- proofs alone: a dict that is locked -/
  | frd (o : Obj) (es : List (Key × V))

mutual
/-- frozen: nothing of it will be changed any more -/
def frz : D → D
  | .tup xs => .tup (frzL xs)
  | .lst _ xs => .lst false (frzL xs)
  | .dct _ kvs => .dct false (frzK kvs)
  | .obj _ c fs => .obj false c (frzF fs)
  | .exn c fs => .exn c (frzF fs)
  | .raw => .junk
  | .non => .non | .bl b => .bl b | .int i => .int i | .str s => .str s | .fn x => .fn x | .hole v => .hole v | .junk => .junk | .al v d => .al v (frz d) | .frd o es => .frd o es
def frzL : List D → List D
  | [] => []
  | x :: xs => frz x :: frzL xs
def frzK : List (Key × D) → List (Key × D)
  | [] => []
  | (k, x) :: xs => (k, frz x) :: frzK xs
def frzF : List (Str × D) → List (Str × D)
  | [] => []
  | (k, x) :: xs => (k, frz x) :: frzF xs
end

theorem frzL_map : ∀ xs : List D, frzL xs = xs.map frz
  | [] => by unfold frzL; rfl
  | x :: xs => by unfold frzL; rw [frzL_map xs]; rfl
theorem frzK_map : ∀ xs : List (Key × D), frzK xs = xs.map fun p => (p.1, frz p.2)
  | [] => by unfold frzK; rfl
  | (k, x) :: xs => by unfold frzK; rw [frzK_map xs]; rfl
theorem frzF_map : ∀ xs : List (Str × D), frzF xs = xs.map fun p => (p.1, frz p.2)
  | [] => by unfold frzF; rfl
  | (k, x) :: xs => by unfold frzF; rw [frzF_map xs]; rfl
theorem frzK_fst (xs : List (Key × D)) : (frzK xs).map (·.1) = xs.map (·.1) := by rw [frzK_map, List.map_map]; rfl
theorem frzF_fst (xs : List (Str × D)) : (frzF xs).map (·.1) = xs.map (·.1) := by rw [frzF_map, List.map_map]; rfl
theorem frzK_snd (xs : List (Key × D)) : (frzK xs).map (·.2) = frzL (xs.map (·.2)) := by rw [frzK_map, frzL_map, List.map_map, List.map_map]; rfl
theorem frzF_snd (xs : List (Str × D)) : (frzF xs).map (·.2) = frzL (xs.map (·.2)) := by rw [frzF_map, frzL_map, List.map_map, List.map_map]; rfl

/-! ### what the text's names stand for -/
/-- K: the written part; cls: where a class of the text stands; glb: what a name as a value is; T: the tables of code objects, with the names that they tell -/
structure Glb where
  K : PySem.W.Frag
  cls : Str → Option Addr
  glb : Str → Option V
  T : List (Addr × Str)

/-- a list, a tuple of the written part -/
def KL (K : PySem.W.Frag) (a : Addr) (xs : List V) : Prop :=
  ∃ (o : Obj) (its : Array Value) (n : Nat), K.lookup a = some o ∧ o.cls = .type "list" ∧ o.dict = none ∧ o.data = .seq its n ∧ its.size ≤ sizeLine ∧ Vals xs its.toList
def KT (K : PySem.W.Frag) (a : Addr) (xs : List V) : Prop :=
  ∃ (o : Obj) (its : Array Value) (n : Nat), K.lookup a = some o ∧ o.cls = .type "tuple" ∧ o.data = .seq its n ∧ its.size ≤ sizeLine ∧ Vals xs its.toList

/-- what one may own -/
def Mu : HO → Prop
  | .lst _ => True
  | .dK _ => True
  | .ins _ _ _ => True
  | _ => False
/-- just this object at a -/
def ExX (oe : Obj) (a : Addr) : HO := .ext fun h => h.get? a = some oe
/-- a caught exception's object -/
structure XObj (H : Hp) (oe : Obj) (C : Addr) : Prop where
  cls : oe.cls = .ref C
  data : ∃ vs, oe.data = .fields vs
  dict : oe.dict = none ∨ ∃ d vfs, oe.dict = some d ∧ H d = some (.xd vfs)
section
variable (g : Glb) (H : Hp) (Z : Addr → Prop)
mutual
/-- v is the tree d in H; A: the addresses that it owns; no frozen part of it stands at an address of Z -/
inductive Rep : V → D → List Addr → Prop
  | non : Rep .non .non []
  | bl (b : Bool) : Rep (.bl b) (.bl b) []
  | int (i : Int) : Rep (.int i) (.int i) []
  | str (s : Str) : Rep (.str s) (.str s) []
  | tupH {a : Addr} {vs : List V} {ds : List D} {A : List Addr} : Rd H a (.tup vs) → ¬ Z a → RepL vs ds A → Rep (.ref a) (.tup ds) A
  | tupK {a : Addr} {vs : List V} {ds : List D} : KT g.K a vs → RepL vs ds [] → Rep (.ref a) (.tup ds) []
  | lstF {a : Addr} {vs : List V} {ds : List D} : Rd H a (.lst vs) → ¬ Z a → RepL vs ds [] → Rep (.ref a) (.lst false ds) []
  | lstK {a : Addr} {vs : List V} {ds : List D} : KL g.K a vs → RepL vs ds [] → Rep (.ref a) (.lst false ds) []
  | lstO {a : Addr} {vs : List V} {ds : List D} {A : List Addr} : H a = some (.lst vs) → RepL vs ds A → Rep (.ref a) (.lst true ds) (a :: A)
  | dctF {a : Addr} {es : List (Key × V)} {kvs : List (Key × D)} : Rd H a (.dK es) → ¬ Z a → es.map (·.1) = kvs.map (·.1) → RepL (es.map (·.2)) (kvs.map (·.2)) [] → Rep (.ref a) (.dct false kvs) []
  | dctO {a : Addr} {es : List (Key × V)} {kvs : List (Key × D)} {A : List Addr} : H a = some (.dK es) → es.map (·.1) = kvs.map (·.1) → RepL (es.map (·.2)) (kvs.map (·.2)) A → Rep (.ref a) (.dct true kvs) (a :: A)
  | objF {a C dx : Addr} {c : Str} {fs : List (Str × V)} {gs : List (Str × D)} : H a = some (.ins C dx fs) → ¬ Z a → g.cls c = some C → fs.map (·.1) = gs.map (·.1) → RepL (fs.map (·.2)) (gs.map (·.2)) [] → Rep (.ref a) (.obj false c gs) []
  | objO {a C dx : Addr} {c : Str} {fs : List (Str × V)} {gs : List (Str × D)} {A : List Addr} : H a = some (.ins C dx fs) → g.cls c = some C → fs.map (·.1) = gs.map (·.1) → RepL (fs.map (·.2)) (gs.map (·.2)) A → Rep (.ref a) (.obj true c gs) (a :: A)
  | fn {x : Str} {v : V} : g.glb x = some v → Rep v (.fn x) []
  | hole {v : V} : Rep v (.hole v) []
  | raw {a : Addr} {o : HO} : H a = some o → Mu o → Rep (.ref a) .raw [a]
  | junk {v : V} : Rep v .junk []
  | exn0 {a C : Addr} {c : Str} : H a = some (ExO (.ref C) a) → ¬ Z a → g.cls c = some C → Rep (.ref a) (.exn c []) []
  | exn1 {a C dx : Addr} {c : Str} {fs : List (Str × V)} {gs : List (Str × D)} : H a = some (exo a C (some dx)) → H dx = some (exd dx fs) → ¬ Z a → ¬ Z dx → g.cls c = some C → fs.map (·.1) = gs.map (·.1) → RepL (fs.map (·.2)) (gs.map (·.2)) [] → Rep (.ref a) (.exn c gs) []
  | exn2 {a C : Addr} {c : Str} {oe : Obj} : H a = some (ExX oe a) → ¬ Z a → (∀ d, oe.dict = some d → ¬ Z d) → XObj H oe C → g.cls c = some C → Rep (.ref a) (.exn c []) []
  | al {v : V} {d : D} {A : List Addr} : Rep v d A → Rep v (.al v d) A
  | frd {a : Addr} {o : Obj} {es : List (Key × V)} : H a = some (.frz o (.dK es)) → ¬ Z a → Rep (.ref a) (.frd o es) []
inductive RepL : List V → List D → List Addr → Prop
  | nil : RepL [] [] []
  | cons {v : V} {d : D} {vs : List V} {ds : List D} {A B : List Addr} : Rep v d A → RepL vs ds B → RepL (v :: vs) (d :: ds) (A ++ B)
end
end
end TL
end

-- text TL2
section
set_option Elab.async false
set_option linter.all false
set_option maxRecDepth 100000
set_option maxHeartbeats 4000000
namespace TL
open PySem PySem.Spec PyProof.Rows L2

mutual
theorem frz_idem : ∀ d : D, frz (frz d) = frz d
  | .tup xs => congrArg D.tup (frzL_idem xs)
  | .lst _ xs => congrArg (D.lst false) (frzL_idem xs)
  | .dct _ xs => congrArg (D.dct false) (frzK_idem xs)
  | .obj _ c xs => congrArg (D.obj false c) (frzF_idem xs)
  | .exn c xs => congrArg (D.exn c) (frzF_idem xs)
  | .non => rfl | .bl _ => rfl | .int _ => rfl | .str _ => rfl | .fn _ => rfl | .hole _ => rfl | .raw => rfl | .junk => rfl | .al v d => congrArg (D.al v) (frz_idem d) | .frd o es => rfl
theorem frzL_idem : ∀ xs : List D, frzL (frzL xs) = frzL xs
  | [] => rfl
  | x :: xs => by
    show frz (frz x) :: frzL (frzL xs) = frz x :: frzL xs
    rw [frz_idem x, frzL_idem xs]
theorem frzK_idem : ∀ xs : List (Key × D), frzK (frzK xs) = frzK xs
  | [] => rfl
  | (k, x) :: xs => by
    show (k, frz (frz x)) :: frzK (frzK xs) = (k, frz x) :: frzK xs
    rw [frz_idem x, frzK_idem xs]
theorem frzF_idem : ∀ xs : List (Str × D), frzF (frzF xs) = frzF xs
  | [] => rfl
  | (k, x) :: xs => by
    show (k, frz (frz x)) :: frzF (frzF xs) = (k, frz x) :: frzF xs
    rw [frz_idem x, frzF_idem xs]
end
section
variable {g : Glb} {H H' : Hp} {Z Z' : Addr → Prop}
mutual
theorem Rep.mono (hZ : ∀ a, Z' a → Z a) : ∀ {v : V} {d : D} {A : List Addr}, Rep g H Z v d A → Rep g H Z' v d A
  | _, _, _, .non => .non
  | _, _, _, .bl b => .bl b
  | _, _, _, .int i => .int i
  | _, _, _, .str s => .str s
  | _, _, _, .tupH h z r => .tupH h (fun q => z (hZ _ q)) (RepL.mono hZ r)
  | _, _, _, .tupK h r => .tupK h (RepL.mono hZ r)
  | _, _, _, .lstF h z r => .lstF h (fun q => z (hZ _ q)) (RepL.mono hZ r)
  | _, _, _, .lstK h r => .lstK h (RepL.mono hZ r)
  | _, _, _, .lstO h r => .lstO h (RepL.mono hZ r)
  | _, _, _, .dctF h z e r => .dctF h (fun q => z (hZ _ q)) e (RepL.mono hZ r)
  | _, _, _, .dctO h e r => .dctO h e (RepL.mono hZ r)
  | _, _, _, .objF h z c e r => .objF h (fun q => z (hZ _ q)) c e (RepL.mono hZ r)
  | _, _, _, .objO h c e r => .objO h c e (RepL.mono hZ r)
  | _, _, _, .fn h => .fn h
  | _, _, _, .hole => .hole
  | _, _, _, .raw h m => .raw h m
  | _, _, _, .junk => .junk
  | _, _, _, .exn0 h z c => .exn0 h (fun q => z (hZ _ q)) c
  | _, _, _, .exn1 h h2 z z2 c e r => .exn1 h h2 (fun q => z (hZ _ q)) (fun q => z2 (hZ _ q)) c e (RepL.mono hZ r)
  | _, _, _, .exn2 h z y x c => .exn2 h (fun q => z (hZ _ q)) (fun d e q => y d e (hZ _ q)) x c
  | _, _, _, .al r => .al (Rep.mono hZ r)
  | _, _, _, .frd h z => .frd h (fun q => z (hZ _ q))
theorem RepL.mono (hZ : ∀ a, Z' a → Z a) : ∀ {vs : List V} {ds : List D} {A : List Addr}, RepL g H Z vs ds A → RepL g H Z' vs ds A
  | _, _, _, .nil => .nil
  | _, _, _, .cons h r => .cons (Rep.mono hZ h) (RepL.mono hZ r)
end
theorem rd_keep {a : Addr} {u : HO} (k : ∀ o, H a = some o → H' a = some o) (h : Rd H a u) : Rd H' a u := by
  rcases h with h | ⟨o, h⟩
  · exact .inl (k _ h)
  · exact .inr ⟨o, k _ h⟩
abbrev NT (o : HO) : Prop := ∀ ps, o ≠ .tbl ps
theorem nt_tup {vs : List V} : NT (.tup vs) := fun ps y => nomatch y
theorem nt_lst {vs : List V} : NT (.lst vs) := fun ps y => nomatch y
theorem nt_frz {o : Obj} {u : HO} : NT (.frz o u) := fun ps y => nomatch y
theorem nt_ExO {c : Value} {a : Addr} : NT (ExO c a) := fun ps y => by
  have y' : HO.ext _ = HO.tbl ps := y
  cases y'
theorem nt_ExX {oe : Obj} {a : Addr} : NT (ExX oe a) := fun ps y => by
  have y' : HO.ext _ = HO.tbl ps := y
  cases y'
theorem nt_xd {fs : List (Str × V)} : NT (.xd fs) := fun ps y => nomatch y
theorem XObj.to {oe : Obj} {C : Addr} (h : XObj H oe C) (k : ∀ d vfs, oe.dict = some d → H d = some (.xd vfs) → H' d = some (.xd vfs)) : XObj H' oe C :=
  ⟨h.cls, h.data, h.dict.elim .inl fun ⟨d, vfs, e1, e2⟩ => .inr ⟨d, vfs, e1, k d vfs e1 e2⟩⟩
theorem nt_exo {e C : Addr} {d : Option Addr} : NT (exo e C d) := fun ps => exo_tbl
theorem nt_exd {e : Addr} {fs : List (Str × V)} : NT (exd e fs) := fun ps y => by
  have y' : HO.ext _ = HO.tbl ps := y
  cases y'
theorem nt_dK {es : List (Key × V)} : NT (.dK es) := fun ps y => nomatch y
theorem nt_ins {C dx : Addr} {fs : List (Str × V)} : NT (.ins C dx fs) := fun ps y => nomatch y
theorem rd_keepT {a : Addr} {u : HO} (k : ∀ o, NT o → H a = some o → H' a = some o) (n : NT u) (h : Rd H a u) : Rd H' a u := by
  rcases h with h | ⟨o, h⟩
  · exact .inl (k _ n h)
  · exact .inr ⟨o, k _ (fun ps z => nomatch z) h⟩
mutual
/-- the heap changed at owned addresses of others alone, or grew -/
theorem Rep.heap (k : ∀ a o, ¬ Z a → NT o → H a = some o → H' a = some o) : ∀ {v : V} {d : D} {A : List Addr}, (∀ a ∈ A, H' a = H a) → Rep g H Z v d A → Rep g H' Z v d A
  | _, _, _, _, .non => .non
  | _, _, _, _, .bl b => .bl b
  | _, _, _, _, .int i => .int i
  | _, _, _, _, .str s => .str s
  | _, _, _, q, .tupH h z r => .tupH (rd_keepT (fun o => k _ o z) nt_tup h) z (RepL.heap k q r)
  | _, _, _, q, .tupK h r => .tupK h (RepL.heap k q r)
  | _, _, _, q, .lstF h z r => .lstF (rd_keepT (fun o => k _ o z) nt_lst h) z (RepL.heap k q r)
  | _, _, _, q, .lstK h r => .lstK h (RepL.heap k q r)
  | _, _, _, q, .lstO h r => .lstO ((q _ List.mem_cons_self).trans h) (RepL.heap k (fun a m => q a (List.mem_cons_of_mem _ m)) r)
  | _, _, _, q, .dctF h z e r => .dctF (rd_keepT (fun o => k _ o z) nt_dK h) z e (RepL.heap k q r)
  | _, _, _, q, .dctO h e r => .dctO ((q _ List.mem_cons_self).trans h) e (RepL.heap k (fun a m => q a (List.mem_cons_of_mem _ m)) r)
  | _, _, _, q, .objF h z c e r => .objF (k _ _ z nt_ins h) z c e (RepL.heap k q r)
  | _, _, _, q, .objO h c e r => .objO ((q _ List.mem_cons_self).trans h) c e (RepL.heap k (fun a m => q a (List.mem_cons_of_mem _ m)) r)
  | _, _, _, _, .fn h => .fn h
  | _, _, _, _, .hole => .hole
  | _, _, _, q, .raw h m => .raw ((q _ List.mem_cons_self).trans h) m
  | _, _, _, _, .junk => .junk
  | _, _, _, _, .exn0 h z c => .exn0 (k _ _ z nt_ExO h) z c
  | _, _, _, q, .exn1 h h2 z z2 c e r => .exn1 (k _ _ z nt_exo h) (k _ _ z2 nt_exd h2) z z2 c e (RepL.heap k q r)
  | _, _, _, q, .exn2 h z y x c => .exn2 (k _ _ z nt_ExX h) z y (x.to fun d vfs e1 e2 => k _ _ (y d e1) nt_xd e2) c
  | _, _, _, q, .al r => .al (Rep.heap k q r)
  | _, _, _, _, .frd h z => .frd (k _ _ z nt_frz h) z
theorem RepL.heap (k : ∀ a o, ¬ Z a → NT o → H a = some o → H' a = some o) : ∀ {vs : List V} {ds : List D} {A : List Addr}, (∀ a ∈ A, H' a = H a) → RepL g H Z vs ds A → RepL g H' Z vs ds A
  | _, _, _, _, .nil => .nil
  | _, _, _, q, .cons h r => .cons (Rep.heap k (fun a m => q a (List.mem_append_left _ m)) h) (RepL.heap k (fun a m => q a (List.mem_append_right _ m)) r)
end

/-- still there, or a dict that got locked -/
def Kd (H : Hp) (a : Addr) (o : HO) : Prop := H a = some o ∨ (∃ es, o = .dK es) ∧ ∃ ob, H a = some (.frz ob o)
theorem Kd.at_ {a : Addr} {o : HO} (h : Kd H a o) (n : ∀ es, o ≠ .dK es) : H a = some o := h.elim id fun ⟨⟨es, e⟩, _⟩ => absurd e (n es)
theorem Kd.rd {a : Addr} {o : HO} (h : Kd H a o) : Rd H a o := h.elim .inl fun ⟨_, ob, e⟩ => .inr ⟨ob, e⟩
theorem rd_kd {a : Addr} {u : HO} (k : ∀ o, NT o → H a = some o → Kd H' a o) (n : NT u) (h : Rd H a u) : Rd H' a u := by
  rcases h with h | ⟨o, h⟩
  · exact (k _ n h).rd
  · exact .inr ⟨o, (k _ nt_frz h).at_ fun es z => nomatch z⟩
mutual
/-- dicts that nobody owns may get locked -/
theorem Rep.lockd (k : ∀ a o, ¬ Z a → NT o → H a = some o → Kd H' a o) : ∀ {v : V} {d : D} {A : List Addr}, (∀ a ∈ A, H' a = H a) → Rep g H Z v d A → Rep g H' Z v d A
  | _, _, _, _, .non => .non
  | _, _, _, _, .bl b => .bl b
  | _, _, _, _, .int i => .int i
  | _, _, _, _, .str s => .str s
  | _, _, _, q, .tupH h z r => .tupH (rd_kd (fun o => k _ o z) nt_tup h) z (RepL.lockd k q r)
  | _, _, _, q, .tupK h r => .tupK h (RepL.lockd k q r)
  | _, _, _, q, .lstF h z r => .lstF (rd_kd (fun o => k _ o z) nt_lst h) z (RepL.lockd k q r)
  | _, _, _, q, .lstK h r => .lstK h (RepL.lockd k q r)
  | _, _, _, q, .lstO h r => .lstO ((q _ List.mem_cons_self).trans h) (RepL.lockd k (fun a m => q a (List.mem_cons_of_mem _ m)) r)
  | _, _, _, q, .dctF h z e r => .dctF (rd_kd (fun o => k _ o z) nt_dK h) z e (RepL.lockd k q r)
  | _, _, _, q, .dctO h e r => .dctO ((q _ List.mem_cons_self).trans h) e (RepL.lockd k (fun a m => q a (List.mem_cons_of_mem _ m)) r)
  | _, _, _, q, .objF h z c e r => .objF ((k _ _ z nt_ins h).at_ fun es z => nomatch z) z c e (RepL.lockd k q r)
  | _, _, _, q, .objO h c e r => .objO ((q _ List.mem_cons_self).trans h) c e (RepL.lockd k (fun a m => q a (List.mem_cons_of_mem _ m)) r)
  | _, _, _, _, .fn h => .fn h
  | _, _, _, _, .hole => .hole
  | _, _, _, q, .raw h m => .raw ((q _ List.mem_cons_self).trans h) m
  | _, _, _, _, .junk => .junk
  | _, _, _, _, .exn0 h z c => .exn0 ((k _ _ z nt_ExO h).at_ fun es y => by
      have y' : HO.ext _ = HO.dK es := y
      cases y') z c
  | _, _, _, q, .exn1 h h2 z z2 c e r => .exn1 ((k _ _ z nt_exo h).at_ fun es y => by
      have y' : HO.ext _ = HO.dK es := y
      cases y') ((k _ _ z2 nt_exd h2).at_ fun es y => by
      have y' : HO.ext _ = HO.dK es := y
      cases y') z z2 c e (RepL.lockd k q r)
  | _, _, _, _, .exn2 h z y x c => .exn2 ((k _ _ z nt_ExX h).at_ fun es y => by
      have y' : HO.ext _ = HO.dK es := y
      cases y') z y (x.to fun d vfs e1 e2 => (k _ _ (y d e1) nt_xd e2).at_ fun es z => nomatch z) c
  | _, _, _, q, .al r => .al (Rep.lockd k q r)
  | _, _, _, _, .frd h z => .frd ((k _ _ z nt_frz h).at_ fun es z => nomatch z) z
theorem RepL.lockd (k : ∀ a o, ¬ Z a → NT o → H a = some o → Kd H' a o) : ∀ {vs : List V} {ds : List D} {A : List Addr}, (∀ a ∈ A, H' a = H a) → RepL g H Z vs ds A → RepL g H' Z vs ds A
  | _, _, _, _, .nil => .nil
  | _, _, _, q, .cons h r => .cons (Rep.lockd k (fun a m => q a (List.mem_append_left _ m)) h) (RepL.lockd k (fun a m => q a (List.mem_append_right _ m)) r)
end

mutual
theorem Rep.freeze (hZ : ∀ a, Z' a → Z a) : ∀ {v : V} {d : D} {A : List Addr}, (∀ a ∈ A, ¬ Z' a) → Rep g H Z v d A → Rep g H Z' v (frz d) []
  | _, _, _, _, .non => .non
  | _, _, _, _, .bl b => .bl b
  | _, _, _, _, .int i => .int i
  | _, _, _, _, .str s => .str s
  | _, _, _, q, .tupH h z r => .tupH h (fun y => z (hZ _ y)) (RepL.freeze hZ q r)
  | _, _, _, q, .tupK h r => .tupK h (RepL.freeze hZ q r)
  | _, _, _, q, .lstF h z r => .lstF h (fun y => z (hZ _ y)) (RepL.freeze hZ q r)
  | _, _, _, q, .lstK h r => .lstK h (RepL.freeze hZ q r)
  | _, _, _, q, .lstO h r => .lstF (.inl h) (q _ List.mem_cons_self) (RepL.freeze hZ (fun a m => q a (List.mem_cons_of_mem _ m)) r)
  | _, _, _, q, .dctF h z e r => .dctF h (fun y => z (hZ _ y)) (e.trans (frzK_fst _).symm) (by rw [frzK_snd]; exact RepL.freeze hZ q r)
  | _, _, _, q, .dctO h e r => .dctF (.inl h) (q _ List.mem_cons_self) (e.trans (frzK_fst _).symm) (by rw [frzK_snd]; exact RepL.freeze hZ (fun a m => q a (List.mem_cons_of_mem _ m)) r)
  | _, _, _, q, .objF h z c e r => .objF h (fun y => z (hZ _ y)) c (e.trans (frzF_fst _).symm) (by rw [frzF_snd]; exact RepL.freeze hZ q r)
  | _, _, _, q, .objO h c e r => .objF h (q _ List.mem_cons_self) c (e.trans (frzF_fst _).symm) (by rw [frzF_snd]; exact RepL.freeze hZ (fun a m => q a (List.mem_cons_of_mem _ m)) r)
  | _, _, _, _, .fn h => .fn h
  | _, _, _, _, .hole => .hole
  | _, _, _, _, .raw h m => .junk
  | _, _, _, _, .junk => .junk
  | _, _, _, _, .exn0 h z c => .exn0 h (fun y => z (hZ _ y)) c
  | _, _, _, q, .exn1 h h2 z z2 c e r => .exn1 h h2 (fun y => z (hZ _ y)) (fun y => z2 (hZ _ y)) c (e.trans (frzF_fst _).symm) (by rw [frzF_snd]; exact RepL.freeze hZ q r)
  | _, _, _, _, .exn2 h z y x c => .exn2 h (fun q => z (hZ _ q)) (fun d e q => y d e (hZ _ q)) x c
  | _, _, _, q, .al r => .al (Rep.freeze hZ q r)
  | _, _, _, _, .frd h z => .frd h (fun y => z (hZ _ y))
theorem RepL.freeze (hZ : ∀ a, Z' a → Z a) : ∀ {vs : List V} {ds : List D} {A : List Addr}, (∀ a ∈ A, ¬ Z' a) → RepL g H Z vs ds A → RepL g H Z' vs (frzL ds) []
  | _, _, _, _, .nil => .nil
  | _, _, _, q, .cons h r => .cons (A := []) (Rep.freeze hZ (fun a m => q a (List.mem_append_left _ m)) h) (RepL.freeze hZ (fun a m => q a (List.mem_append_right _ m)) r)
end
mutual
theorem Rep.nil_of : ∀ {v : V} {d : D} {A : List Addr}, frz d = d → Rep g H Z v d A → A = []
  | _, _, _, _, .non => rfl
  | _, _, _, _, .bl b => rfl
  | _, _, _, _, .int i => rfl
  | _, _, _, _, .str s => rfl
  | _, _, _, q, .tupH h z r => RepL.nil_of (D.tup.inj q) r
  | _, _, _, q, .tupK h r => rfl
  | _, _, _, q, .lstF h z r => rfl
  | _, _, _, q, .lstK h r => rfl
  | _, _, _, q, .lstO h r => absurd (D.lst.inj q).1 (by decide)
  | _, _, _, q, .dctF h z e r => rfl
  | _, _, _, q, .dctO h e r => absurd (D.dct.inj q).1 (by decide)
  | _, _, _, q, .objF h z c e r => rfl
  | _, _, _, q, .objO h c e r => absurd (D.obj.inj q).1 (by decide)
  | _, _, _, _, .fn h => rfl
  | _, _, _, _, .hole => rfl
  | _, _, _, q, .raw h m => by
    have q' : D.junk = D.raw := q
    cases q'
  | _, _, _, _, .junk => rfl
  | _, _, _, _, .exn0 h z c => rfl
  | _, _, _, _, .exn1 h h2 z z2 c e r => rfl
  | _, _, _, _, .exn2 h z y x c => rfl
  | _, _, _, q, .al r => Rep.nil_of (D.al.inj q).2 r
  | _, _, _, _, .frd h z => rfl
theorem RepL.nil_of : ∀ {vs : List V} {ds : List D} {A : List Addr}, frzL ds = ds → RepL g H Z vs ds A → A = []
  | _, _, _, _, .nil => rfl
  | _, _, _, q, .cons h r => by
    have q' := List.cons.inj q
    rw [Rep.nil_of q'.1 h, RepL.nil_of q'.2 r] <;> rfl
end
mutual
theorem Rep.own : ∀ {v : V} {d : D} {A : List Addr}, Rep g H Z v d A → ∀ a ∈ A, ∃ o, H a = some o ∧ Mu o
  | _, _, _, .tupH h z r => RepL.own r
  | _, _, _, .lstO h r => fun a m => (List.mem_cons.mp m).elim (fun e => e ▸ ⟨_, h, trivial⟩) (RepL.own r a)
  | _, _, _, .dctO h e r => fun a m => (List.mem_cons.mp m).elim (fun e => e ▸ ⟨_, h, trivial⟩) (RepL.own r a)
  | _, _, _, .objO h c e r => fun a m => (List.mem_cons.mp m).elim (fun e => e ▸ ⟨_, h, trivial⟩) (RepL.own r a)
  | _, _, _, .raw h m => fun a q => by
    rw [List.mem_singleton.mp q]
    exact ⟨_, h, m⟩
  | _, _, _, .non => fun _ m => nomatch m
  | _, _, _, .bl b => fun _ m => nomatch m
  | _, _, _, .int i => fun _ m => nomatch m
  | _, _, _, .str s => fun _ m => nomatch m
  | _, _, _, .tupK h r => fun _ m => nomatch m
  | _, _, _, .lstF h z r => fun _ m => nomatch m
  | _, _, _, .lstK h r => fun _ m => nomatch m
  | _, _, _, .dctF h z e r => fun _ m => nomatch m
  | _, _, _, .objF h z c e r => fun _ m => nomatch m
  | _, _, _, .fn h => fun _ m => nomatch m
  | _, _, _, .hole => fun _ m => nomatch m
  | _, _, _, .junk => fun _ m => nomatch m
  | _, _, _, .exn0 h z c => fun _ m => nomatch m
  | _, _, _, .exn1 h h2 z z2 c e r => fun _ m => nomatch m
  | _, _, _, .exn2 h z y x c => fun _ m => nomatch m
  | _, _, _, .al r => Rep.own r
  | _, _, _, .frd h z => fun _ m => nomatch m
theorem RepL.own : ∀ {vs : List V} {ds : List D} {A : List Addr}, RepL g H Z vs ds A → ∀ a ∈ A, ∃ o, H a = some o ∧ Mu o
  | _, _, _, .nil => fun _ m => nomatch m
  | _, _, _, .cons h r => fun a m => (List.mem_append.mp m).elim (Rep.own h a) (RepL.own r a)
end
theorem RepL.length : ∀ {vs : List V} {ds : List D} {A : List Addr}, RepL g H Z vs ds A → vs.length = ds.length
  | _, _, _, .nil => rfl
  | _, _, _, .cons h r => congrArg Nat.succ (RepL.length r)
theorem RepL.app : ∀ {vs ws : List V} {ds es : List D} {A B : List Addr}, RepL g H Z vs ds A → RepL g H Z ws es B → RepL g H Z (vs ++ ws) (ds ++ es) (A ++ B)
  | _, _, _, _, _, _, .nil, s => s
  | _, _, _, _, _, _, .cons h r, s => by
    rw [List.append_assoc]
    exact .cons h (RepL.app r s)
theorem RepL.inv {v : V} {d : D} {vs : List V} {ds : List D} {A : List Addr} (h : RepL g H Z (v :: vs) (d :: ds) A) : ∃ B C, A = B ++ C ∧ Rep g H Z v d B ∧ RepL g H Z vs ds C := by
  cases h with
  | cons a b => exact ⟨_, _, rfl, a, b⟩

/-! ### pairs of values and trees -/
abbrev Prs := List (V × D)
def RepP (g : Glb) (H : Hp) (Z : Addr → Prop) (ps : Prs) (A : List Addr) : Prop := RepL g H Z (ps.map (·.1)) (ps.map (·.2)) A
theorem RepP.cons {p : V × D} {ps : Prs} {A B : List Addr} (h : Rep g H Z p.1 p.2 A) (r : RepP g H Z ps B) : RepP g H Z (p :: ps) (A ++ B) := RepL.cons h r
theorem RepP.inv {p : V × D} {ps : Prs} {A : List Addr} (h : RepP g H Z (p :: ps) A) : ∃ B C, A = B ++ C ∧ Rep g H Z p.1 p.2 B ∧ RepP g H Z ps C := RepL.inv h
theorem RepP.app {ps qs : Prs} {A B : List Addr} (h : RepP g H Z ps A) (r : RepP g H Z qs B) : RepP g H Z (ps ++ qs) (A ++ B) := by
  unfold RepP
  rw [List.map_append, List.map_append]
  exact RepL.app h r
theorem RepP.split : ∀ {ps qs : Prs} {A : List Addr}, RepP g H Z (ps ++ qs) A → ∃ B C, A = B ++ C ∧ RepP g H Z ps B ∧ RepP g H Z qs C
  | [], qs, A, h => ⟨[], A, rfl, RepL.nil, h⟩
  | p :: ps, qs, A, h => by
    obtain ⟨B, C, rfl, h1, h2⟩ := RepP.inv (ps := ps ++ qs) h
    obtain ⟨B', C', rfl, h3, h4⟩ := RepP.split h2
    exact ⟨B ++ B', C', (List.append_assoc ..).symm, RepP.cons h1 h3, h4⟩
theorem RepP.perm {ps qs : Prs} (e : ps.Perm qs) : ∀ {A : List Addr}, RepP g H Z ps A → ∃ B, A.Perm B ∧ RepP g H Z qs B := by
  induction e with
  | nil => intro A h; exact ⟨A, .refl _, h⟩
  | cons x _ ih =>
    intro A h
    obtain ⟨B, C, rfl, h1, h2⟩ := RepP.inv h
    obtain ⟨D, p, r⟩ := ih h2
    exact ⟨B ++ D, p.append_left B, RepP.cons h1 r⟩
  | swap x y l =>
    intro A h
    obtain ⟨B, C, rfl, h1, h2⟩ := RepP.inv h
    obtain ⟨D, E, rfl, h3, h4⟩ := RepP.inv h2
    refine ⟨D ++ (B ++ E), ?_, RepP.cons h3 (RepP.cons h1 h4)⟩
    rw [← List.append_assoc, ← List.append_assoc]
    exact List.perm_append_comm.append_right E
  | trans _ _ i1 i2 =>
    intro A h
    obtain ⟨B, p, r⟩ := i1 h
    obtain ⟨C, q, r2⟩ := i2 r
    exact ⟨C, p.trans q, r2⟩
theorem RepP.mono {ps : Prs} {A : List Addr} (hZ : ∀ a, Z' a → Z a) (h : RepP g H Z ps A) : RepP g H Z' ps A := RepL.mono hZ h
theorem RepP.heap {ps : Prs} {A : List Addr} (k : ∀ a o, ¬ Z a → NT o → H a = some o → H' a = some o) (q : ∀ a ∈ A, H' a = H a) (h : RepP g H Z ps A) : RepP g H' Z ps A := RepL.heap k q h
theorem RepP.own {ps : Prs} {A : List Addr} (h : RepP g H Z ps A) : ∀ a ∈ A, ∃ o, H a = some o ∧ Mu o := RepL.own h
/-- what a list's items are, as pairs -/
theorem RepL.pairs : ∀ {vs : List V} {ds : List D} {A : List Addr}, RepL g H Z vs ds A → RepP g H Z (vs.zip ds) A
  | _, _, _, .nil => .nil
  | _, _, _, .cons h r => RepP.cons (p := (_, _)) h (RepL.pairs r)
theorem RepP.items : ∀ {vs : List V} {ds : List D} {A : List Addr}, vs.length = ds.length → RepP g H Z (vs.zip ds) A → RepL g H Z vs ds A
  | [], [], _, _, h => h
  | [], _ :: _, _, e, _ => nomatch e
  | _ :: _, [], _, e, _ => nomatch e
  | v :: vs, d :: ds, A, e, h => by
    obtain ⟨B, C, rfl, h1, h2⟩ := RepP.inv (p := (v, d)) (ps := vs.zip ds) h
    exact .cons h1 (RepP.items (Nat.succ.inj e) h2)

theorem rd_some {a : Addr} {u : HO} (h : Rd H a u) : H a ≠ none := fun n => by
  rcases h with h | ⟨o, h⟩
  · rw [n] at h; cases h
  · rw [n] at h; cases h
mutual
/-- addresses at which nothing is tracked may be owned by others -/
theorem Rep.grow (hZ : ∀ a, Z' a → Z a ∨ H a = none) : ∀ {v : V} {d : D} {A : List Addr}, Rep g H Z v d A → Rep g H Z' v d A
  | _, _, _, .non => .non
  | _, _, _, .bl b => .bl b
  | _, _, _, .int i => .int i
  | _, _, _, .str s => .str s
  | _, _, _, .tupH h z r => .tupH h (fun q => (hZ _ q).elim z (rd_some h)) (RepL.grow hZ r)
  | _, _, _, .tupK h r => .tupK h (RepL.grow hZ r)
  | _, _, _, .lstF h z r => .lstF h (fun q => (hZ _ q).elim z (rd_some h)) (RepL.grow hZ r)
  | _, _, _, .lstK h r => .lstK h (RepL.grow hZ r)
  | _, _, _, .lstO h r => .lstO h (RepL.grow hZ r)
  | _, _, _, .dctF h z e r => .dctF h (fun q => (hZ _ q).elim z (rd_some h)) e (RepL.grow hZ r)
  | _, _, _, .dctO h e r => .dctO h e (RepL.grow hZ r)
  | _, _, _, .objF h z c e r => .objF h (fun q => (hZ _ q).elim z fun n => by rw [n] at h; cases h) c e (RepL.grow hZ r)
  | _, _, _, .objO h c e r => .objO h c e (RepL.grow hZ r)
  | _, _, _, .fn h => .fn h
  | _, _, _, .hole => .hole
  | _, _, _, .raw h m => .raw h m
  | _, _, _, .junk => .junk
  | _, _, _, .exn0 h z c => .exn0 h (fun q => (hZ _ q).elim z fun n => by rw [n] at h; cases h) c
  | _, _, _, .exn1 h h2 z z2 c e r => .exn1 h h2 (fun q => (hZ _ q).elim z fun n => by rw [n] at h; cases h) (fun q => (hZ _ q).elim z2 fun n => by rw [n] at h2; cases h2) c e (RepL.grow hZ r)
  | _, _, _, .exn2 h z y x c => .exn2 h (fun q => (hZ _ q).elim z fun n => by rw [n] at h; cases h) (fun d e q => (hZ _ q).elim (y d e) fun n => by
      rcases x.dict with e2 | ⟨d', vfs, e2, e3⟩
      · rw [e] at e2; cases e2
      · rw [e] at e2; cases e2; rw [n] at e3; cases e3) x c
  | _, _, _, .al r => .al (Rep.grow hZ r)
  | _, _, _, .frd h z => .frd h (fun q => (hZ _ q).elim z fun n => by rw [n] at h; cases h)
theorem RepL.grow (hZ : ∀ a, Z' a → Z a ∨ H a = none) : ∀ {vs : List V} {ds : List D} {A : List Addr}, RepL g H Z vs ds A → RepL g H Z' vs ds A
  | _, _, _, .nil => .nil
  | _, _, _, .cons h r => .cons (Rep.grow hZ h) (RepL.grow hZ r)
end
theorem RepP.grow {ps : Prs} {A : List Addr} (hZ : ∀ a, Z' a → Z a ∨ H a = none) (h : RepP g H Z ps A) : RepP g H Z' ps A := RepL.grow hZ h
end
end TL
end

-- text TL3
section
set_option Elab.async false
set_option linter.all false
set_option maxRecDepth 100000
set_option maxHeartbeats 4000000
namespace TL
open PySem PySem.Spec PyProof.Rows L2

/-- where a def stands: the heap at its entry, the addresses that it was lent -/
structure Bs where
  H0 : Hp
  A0 : List Addr
/-- beside the trees: the tables of code objects -/
structure Wi (g : Glb) (b : Bs) (H : Hp) (A : List Addr) : Prop where
  tab : LamX.Tabs g.T H
  lock : ∀ a o, NT o → b.H0 a = some o → Kd H a o ∧ a ∉ A
/-- pairs of values and trees that stand together in H -/
def JJ (g : Glb) (b : Bs) (H : Hp) (ps : Prs) : Prop := ∃ A, RepP g H (· ∈ A) ps A ∧ A.Nodup ∧ Wi g b H A
abbrev Ext (H H' : Hp) : Prop := ∀ a o, H a = some o → H' a = some o
theorem Ext.refl (H : Hp) : Ext H H := fun _ _ h => h
theorem Ext.trans {H H1 H2 : Hp} (a : Ext H H1) (b : Ext H1 H2) : Ext H H2 := fun x o h => b x o (a x o h)
theorem Ext.new {H : Hp} {p : Addr} {o : HO} (h : H p = none) : Ext H (upd H p o) := fun a u e => by
  rw [upd_ne (ne_of_none e h)]
  exact e

section
variable {g : Glb} {b : Bs} {H H' : Hp} {ps qs : Prs}
theorem Wi.sub {A B : List Addr} (w : Wi g b H A) (s : ∀ a ∈ B, a ∈ A) : Wi g b H B := ⟨w.tab, fun a o n h => ⟨(w.lock a o n h).1, fun m => (w.lock a o n h).2 (s a m)⟩⟩
theorem Wi.ext {A : List Addr} (w : Wi g b H A) (e : Ext H H') : Wi g b H' A := ⟨w.tab.ext e, fun a o n h => ⟨(w.lock a o n h).1.elim (fun q => .inl (e a o q)) fun ⟨x, ob, q⟩ => .inr ⟨x, ob, e a _ q⟩, (w.lock a o n h).2⟩⟩
theorem JJ.perm (e : ps.Perm qs) (j : JJ g b H ps) : JJ g b H qs := by
  obtain ⟨A, r, n, w⟩ := j
  obtain ⟨B, p, r2⟩ := r.perm e
  exact ⟨B, r2.mono fun a m => p.mem_iff.mpr m, p.nodup_iff.mp n, w.sub fun a m => p.mem_iff.mpr m⟩
theorem JJ.drop {p : V × D} (j : JJ g b H (p :: ps)) : JJ g b H ps := by
  obtain ⟨A, r, n, w⟩ := j
  obtain ⟨B, C, rfl, h1, h2⟩ := r.inv
  exact ⟨C, h2.mono fun a m => List.mem_append_right _ m, (List.nodup_append.mp n).2.1, w.sub fun a m => List.mem_append_right _ m⟩
theorem JJ.dropL (j : JJ g b H (ps ++ qs)) : JJ g b H qs := by
  induction ps with
  | nil => exact j
  | cons p ps ih => exact ih (JJ.drop (ps := ps ++ qs) j)
theorem JJ.freeze {v : V} {d : D} (j : JJ g b H ((v, d) :: ps)) : JJ g b H ((v, frz d) :: ps) := by
  obtain ⟨A, r, n, w⟩ := j
  obtain ⟨B, C, rfl, h1, h2⟩ := r.inv
  have hd := (List.nodup_append.mp n).2.2
  refine ⟨C, ?_, (List.nodup_append.mp n).2.1, w.sub fun a m => List.mem_append_right _ m⟩
  exact RepP.cons (A := []) (p := (v, frz d)) (Rep.freeze (fun a m => List.mem_append_right _ m) (fun a m q => hd a m a q rfl) h1) (h2.mono fun a m => List.mem_append_right _ m)
/-- what owns nothing may be had twice -/
theorem JJ.dup {v : V} {d : D} (e : frz d = d) (j : JJ g b H ((v, d) :: ps)) : JJ g b H ((v, d) :: (v, d) :: ps) := by
  obtain ⟨A, r, n, w⟩ := j
  obtain ⟨B, C, rfl, h1, h2⟩ := r.inv
  obtain rfl : B = [] := Rep.nil_of e h1
  exact ⟨C, RepP.cons (A := []) (p := (v, d)) h1 (RepP.cons (A := []) (p := (v, d)) h1 h2), n, w⟩
/-- what owns nothing, known by itself -/
theorem JJ.add {v : V} {d : D} (h : ∀ Z, Rep g H Z v d []) (j : JJ g b H ps) : JJ g b H ((v, d) :: ps) := by
  obtain ⟨A, r, n, w⟩ := j
  exact ⟨A, RepP.cons (A := []) (p := (v, d)) (h _) r, n, w⟩
theorem JJ.ext (e : Ext H H') (j : JJ g b H ps) : JJ g b H' ps := by
  obtain ⟨A, r, n, w⟩ := j
  refine ⟨A, r.heap (fun a o _ _ h => e a o h) (fun a m => ?_), n, w.ext e⟩
  obtain ⟨o, h, _⟩ := r.own a m
  rw [h]
  exact e a o h
/-- a new object over some of the pairs: owned (O = [p]), or one that never changes (O = []) -/
theorem JJ.newG {p : Addr} {o : HO} {d : D} (O : List Addr) (hO : ∀ a ∈ O, a = p) (nO : O.Nodup) (hp : H p = none) (hr : ∀ (Z : Addr → Prop) A, (p ∉ O → ¬ Z p) → RepP g (upd H p o) Z qs A → Rep g (upd H p o) Z (.ref p) d (O ++ A)) (j : JJ g b H (qs ++ ps)) : JJ g b (upd H p o) ((.ref p, d) :: ps) := by
  obtain ⟨A, r, n, w⟩ := j
  have np : ∀ a ∈ A, a ≠ p := fun a m e => by
    obtain ⟨u, h, _⟩ := r.own a m
    rw [e, hp] at h
    cases h
  have w2 := w.ext (Ext.new (o := o) hp)
  have r2 : RepP g H (· ∈ O ++ A) (qs ++ ps) A := r.grow fun a m => (List.mem_append.mp m).elim (fun m => .inr (by rw [hO a m]; exact hp)) .inl
  have r3 : RepP g (upd H p o) (· ∈ O ++ A) (qs ++ ps) A := r2.heap (fun a u _ _ h => by rw [upd_ne (ne_of_none h hp)]; exact h) fun a m => upd_ne (np a m)
  obtain ⟨B, C, rfl, h1, h2⟩ := r3.split
  have key : RepP g (upd H p o) (· ∈ O ++ (B ++ C)) ((.ref p, d) :: ps) ((O ++ B) ++ C) := by
    refine RepP.cons (p := (.ref p, d)) (hr _ B (fun nm m => ?_) h1) h2
    rcases List.mem_append.mp m with m | m
    · exact nm m
    · exact np p m rfl
  rw [List.append_assoc] at key
  exact ⟨O ++ (B ++ C), key, List.nodup_append.mpr ⟨nO, n, fun a m c q => by
      rintro rfl
      exact np a q (hO a m)⟩, ⟨w2.tab, fun a u nn h => ⟨(w2.lock a u nn h).1, fun m => (List.mem_append.mp m).elim (fun m => by
        have h0 := (w.lock a u nn h).1
        rcases h0 with h0 | ⟨_, ob, h0⟩ <;> (rw [hO a m, hp] at h0; cases h0)) (w2.lock a u nn h).2⟩⟩⟩
theorem JJ.newO {p : Addr} {o : HO} {d : D} (hp : H p = none) (hr : ∀ (Z : Addr → Prop) A, RepP g (upd H p o) Z qs A → Rep g (upd H p o) Z (.ref p) d (p :: A)) (j : JJ g b H (qs ++ ps)) : JJ g b (upd H p o) ((.ref p, d) :: ps) :=
  j.newG [p] (fun a m => List.mem_singleton.mp m) (List.nodup_cons.mpr ⟨List.not_mem_nil, List.nodup_nil⟩) hp fun Z A _ h => hr Z A h
theorem JJ.newLst {p : Addr} {vs : List V} {ds : List D} (hp : H p = none) (hl : vs.length = ds.length) (j : JJ g b H (vs.zip ds ++ ps)) : JJ g b (upd H p (.lst vs)) ((.ref p, .lst true ds) :: ps) :=
  j.newO hp fun Z A h => .lstO upd_same (RepP.items hl h)
theorem JJ.newTup {p : Addr} {vs : List V} {ds : List D} (hp : H p = none) (hl : vs.length = ds.length) (j : JJ g b H (vs.zip ds ++ ps)) : JJ g b (upd H p (.tup vs)) ((.ref p, .tup ds) :: ps) :=
  j.newG [] (fun a m => nomatch m) List.nodup_nil hp fun Z A z h => .tupH (.inl upd_same) (z List.not_mem_nil) (RepP.items hl h)
theorem JJ.newDct {p : Addr} {es : List (Key × V)} {kvs : List (Key × D)} (hp : H p = none) (hk : es.map (·.1) = kvs.map (·.1)) (j : JJ g b H ((es.map (·.2)).zip (kvs.map (·.2)) ++ ps)) : JJ g b (upd H p (.dK es)) ((.ref p, .dct true kvs) :: ps) :=
  j.newO hp fun Z A h => .dctO upd_same hk (RepP.items (by rw [List.length_map, List.length_map]; simpa using congrArg List.length hk) h)
/-- an owned list opened: the address itself, the items -/
theorem JJ.openLst {v : V} {ds : List D} (j : JJ g b H ((v, .lst true ds) :: ps)) : ∃ a vs, v = .ref a ∧ H a = some (.lst vs) ∧ vs.length = ds.length ∧ JJ g b H ((.ref a, .raw) :: (vs.zip ds ++ ps)) := by
  obtain ⟨A, r, n, w⟩ := j
  obtain ⟨B, C, rfl, h1, h2⟩ := r.inv
  cases h1 with
  | @lstO a vs _ B h r1 => exact ⟨a, vs, rfl, h, r1.length, a :: B ++ C, RepP.cons (A := [a]) (p := (.ref a, .raw)) (.raw h trivial) (r1.pairs.app h2), n, w⟩
theorem JJ.openDct {v : V} {kvs : List (Key × D)} (j : JJ g b H ((v, .dct true kvs) :: ps)) : ∃ a es, v = .ref a ∧ H a = some (.dK es) ∧ es.map (·.1) = kvs.map (·.1) ∧ JJ g b H ((.ref a, .raw) :: ((es.map (·.2)).zip (kvs.map (·.2)) ++ ps)) := by
  obtain ⟨A, r, n, w⟩ := j
  obtain ⟨B, C, rfl, h1, h2⟩ := r.inv
  cases h1 with
  | @dctO a es _ B h e r1 => exact ⟨a, es, rfl, h, e, a :: B ++ C, RepP.cons (A := [a]) (p := (.ref a, .raw)) (.raw h trivial) (r1.pairs.app h2), n, w⟩
theorem JJ.openObj {v : V} {c : Str} {gs : List (Str × D)} (j : JJ g b H ((v, .obj true c gs) :: ps)) : ∃ a C dx fs, v = .ref a ∧ H a = some (.ins C dx fs) ∧ g.cls c = some C ∧ fs.map (·.1) = gs.map (·.1) ∧ JJ g b H ((.ref a, .raw) :: ((fs.map (·.2)).zip (gs.map (·.2)) ++ ps)) := by
  obtain ⟨A, r, n, w⟩ := j
  obtain ⟨B, C, rfl, h1, h2⟩ := r.inv
  cases h1 with
  | @objO a C dx _ fs _ B h c e r1 => exact ⟨a, C, dx, fs, rfl, h, c, e, a :: B ++ _, RepP.cons (A := [a]) (p := (.ref a, .raw)) (.raw h trivial) (r1.pairs.app h2), n, w⟩
/-- an owned address is written -/
theorem JJ.writeG {a : Addr} {o : HO} {d : D} (hr : ∀ (Z : Addr → Prop) A, RepP g (upd H a o) Z qs A → Rep g (upd H a o) Z (.ref a) d (a :: A)) (j : JJ g b H ((.ref a, .raw) :: (qs ++ ps))) : JJ g b (upd H a o) ((.ref a, d) :: ps) := by
  obtain ⟨A, r, n, w⟩ := j
  obtain ⟨B, C, rfl, h1, h2⟩ := r.inv
  cases h1 with
  | @raw _ u h m =>
    have n2 := List.nodup_cons.mp n
    have ne : ∀ c ∈ C, c ≠ a := fun c m e => n2.1 (e ▸ m)
    have h3 : RepP g (upd H a o) (· ∈ a :: C) (qs ++ ps) C := h2.heap (fun c u z _ h => by
      rw [upd_ne (show c ≠ a from fun e => z (by rw [e]; exact List.mem_cons_self))]
      exact h) fun c m => upd_ne (ne c m)
    obtain ⟨B, E, rfl, h4, h5⟩ := h3.split
    refine ⟨a :: B ++ E, RepP.cons (p := (.ref a, d)) (hr _ B h4) h5, n, ⟨fun q hq => ?_, fun u o' nn hh => ⟨by
      have ne : u ≠ a := fun e => (w.lock u o' nn hh).2 (by rw [e]; exact List.mem_cons_self)
      rcases (w.lock u o' nn hh).1 with q | ⟨x, ob, q⟩
      · exact .inl (by rw [upd_ne ne]; exact q)
      · exact .inr ⟨x, ob, by rw [upd_ne ne]; exact q⟩, (w.lock u o' nn hh).2⟩⟩⟩
    obtain ⟨ts, t1, t2, t3⟩ := w.tab q hq
    refine ⟨ts, ?_, t2, fun pos cv hc => ?_⟩
    · rw [upd_ne (fun e => by rw [e, h] at t1; cases t1; exact m)]
      exact t1
    · obtain ⟨c, e1, e2⟩ := t3 pos cv hc
      refine ⟨c, e1, ?_⟩
      rw [upd_ne (fun e => by rw [e, h] at e2; cases e2; exact m)]
      exact e2
theorem JJ.closeLst {a : Addr} {vs : List V} {ds : List D} (hl : vs.length = ds.length) (j : JJ g b H ((.ref a, .raw) :: (vs.zip ds ++ ps))) : JJ g b (upd H a (.lst vs)) ((.ref a, .lst true ds) :: ps) :=
  j.writeG fun Z A h => .lstO upd_same (RepP.items hl h)
theorem JJ.closeDct {a : Addr} {es : List (Key × V)} {kvs : List (Key × D)} (hk : es.map (·.1) = kvs.map (·.1)) (j : JJ g b H ((.ref a, .raw) :: ((es.map (·.2)).zip (kvs.map (·.2)) ++ ps))) : JJ g b (upd H a (.dK es)) ((.ref a, .dct true kvs) :: ps) :=
  j.writeG fun Z A h => .dctO upd_same hk (RepP.items (by rw [List.length_map, List.length_map]; simpa using congrArg List.length hk) h)
theorem JJ.closeObj {a C dx : Addr} {c : Str} {fs : List (Str × V)} {gs : List (Str × D)} (hc : g.cls c = some C) (hk : fs.map (·.1) = gs.map (·.1)) (j : JJ g b H ((.ref a, .raw) :: ((fs.map (·.2)).zip (gs.map (·.2)) ++ ps))) :
    JJ g b (upd H a (.ins C dx fs)) ((.ref a, .obj true c gs) :: ps) :=
  j.writeG fun Z A h => .objO upd_same hc hk (RepP.items (by rw [List.length_map, List.length_map]; simpa using congrArg List.length hk) h)
theorem upd_eta {a : Addr} {o : HO} (h : H a = some o) : upd H a o = H := by
  funext c
  by_cases e : c = a
  · rw [e, upd_same, h]
  · rw [upd_ne e]
end
end TL
end

-- text TL4
section
set_option Elab.async false
set_option linter.all false
set_option maxRecDepth 100000
set_option maxHeartbeats 4000000
namespace TL
open PySem PySem.Spec PyProof.Rows L2

abbrev Sg := L2.St
/-- the names' trees -/
abbrev En := List (Option D)
inductive Sl : Sg → En → Prs → Prop
  | nil : Sl [] [] []
  | no {s : Option V} {σ : Sg} {env : En} {ps : Prs} : Sl σ env ps → Sl (s :: σ) (none :: env) ps
  | yes {v : V} {d : D} {σ : Sg} {env : En} {ps : Prs} : Sl σ env ps → Sl (some v :: σ) (some d :: env) ((v, d) :: ps)
theorem Sl.take {σ : Sg} {env : En} {ps : Prs} (h : Sl σ env ps) : ∀ {i : Nat} {d : D}, env[i]? = some (some d) → ∃ v qs, σ[i]? = some (some v) ∧ Sl σ (env.set i none) qs ∧ ps.Perm ((v, d) :: qs) := by
  induction h with
  | nil => intro i d e; simp at e
  | no _ ih =>
    intro i d e
    cases i with
    | zero => simp at e
    | succ i =>
      obtain ⟨v, qs, h1, h2, h3⟩ := ih (i := i) (by simpa using e)
      exact ⟨v, qs, by simpa using h1, by simpa using Sl.no h2, h3⟩
  | @yes v0 d0 _ _ _ r ih =>
    intro i d e
    cases i with
    | zero =>
      have e' : d0 = d := by simpa using e
      subst e'
      exact ⟨v0, _, rfl, by simpa using Sl.no r, .refl _⟩
    | succ i =>
      obtain ⟨v, qs, h1, h2, h3⟩ := ih (i := i) (by simpa using e)
      exact ⟨v, (v0, d0) :: qs, by simpa using h1, by simpa using Sl.yes h2, (h3.cons _).trans (.swap ..)⟩
theorem Sl.put {σ : Sg} {env : En} {ps : Prs} (h : Sl σ env ps) : ∀ {i : Nat} {v : V} {d : D}, env[i]? = some none → σ[i]? = some (some v) → ∃ qs, Sl σ (env.set i (some d)) qs ∧ qs.Perm ((v, d) :: ps) := by
  induction h with
  | nil => intro i v d e; simp at e
  | no r ih =>
    intro i v d e es
    cases i with
    | zero =>
      obtain rfl := Option.some.inj es
      exact ⟨_, by simpa using Sl.yes r, .refl _⟩
    | succ i =>
      obtain ⟨qs, h1, h2⟩ := ih (i := i) (d := d) (by simpa using e) (by simpa using es)
      exact ⟨qs, by simpa using Sl.no h1, h2⟩
  | yes r ih =>
    intro i v d e es
    cases i with
    | zero => simp at e
    | succ i =>
      obtain ⟨qs, h1, h2⟩ := ih (i := i) (d := d) (by simpa using e) (by simpa using es)
      exact ⟨_, by simpa using Sl.yes h1, (h2.cons _).trans (.swap ..)⟩
/-- a name is stored: what it had is let go -/
theorem Sl.store {σ : Sg} {env : En} {ps : Prs} (h : Sl σ env ps) : ∀ {i : Nat} (v : V) (d : D), i < env.length → ∃ qs rs, Sl (σ.set i (some v)) (env.set i (some d)) qs ∧ ((v, d) :: ps).Perm (rs ++ qs) := by
  induction h with
  | nil => intro i v d e; simp at e
  | no r ih =>
    intro i v d e
    cases i with
    | zero => exact ⟨_, [], by simpa using Sl.yes r, .refl _⟩
    | succ i =>
      obtain ⟨qs, rs, h1, h2⟩ := ih (i := i) v d (by simpa using e)
      exact ⟨qs, rs, by simpa using Sl.no h1, h2⟩
  | @yes v0 d0 _ _ ps0 r ih =>
    intro i v d e
    cases i with
    | zero => exact ⟨_, [(v0, d0)], by simpa using Sl.yes r, .swap ..⟩
    | succ i =>
      obtain ⟨qs, rs, h1, h2⟩ := ih (i := i) v d (by simpa using e)
      refine ⟨_, rs, by simpa using Sl.yes h1, ?_⟩
      have p1 : ((v, d) :: (v0, d0) :: ps0).Perm ((v0, d0) :: (rs ++ qs)) := (List.Perm.swap ..).trans (h2.cons _)
      exact p1.trans List.perm_middle.symm
theorem Sl.forget {σ : Sg} {env : En} {ps : Prs} (h : Sl σ env ps) : ∀ (i : Nat), ∃ qs rs, Sl σ (env.set i none) qs ∧ ps.Perm (rs ++ qs) := by
  induction h with
  | nil => intro i; exact ⟨[], [], by simpa using Sl.nil, .refl _⟩
  | no r ih =>
    intro i
    cases i with
    | zero => exact ⟨_, [], by simpa using Sl.no r, .refl _⟩
    | succ i =>
      obtain ⟨qs, rs, h1, h2⟩ := ih i
      exact ⟨qs, rs, by simpa using Sl.no h1, h2⟩
  | @yes v0 d0 _ _ ps0 r ih =>
    intro i
    cases i with
    | zero => exact ⟨_, [(v0, d0)], by simpa using Sl.no r, .refl _⟩
    | succ i =>
      obtain ⟨qs, rs, h1, h2⟩ := ih i
      exact ⟨_, rs, by simpa using Sl.yes h1, (h2.cons _).trans List.perm_middle.symm⟩
theorem Sl.len {σ : Sg} {env : En} {ps : Prs} (h : Sl σ env ps) : σ.length = env.length := by
  induction h with
  | nil => rfl
  | no _ ih => simp [ih]
  | yes _ ih => simp [ih]
/-- forgetting slots that have no tree -/
theorem Sl.wipe {σ : Sg} {env : En} {ps : Prs} (h : Sl σ env ps) : ∀ (i : Nat) (s : Option V), env[i]? = some none → Sl (σ.set i s) env ps := by
  induction h with
  | nil => intro i s e; simp at e
  | no r ih =>
    intro i s e
    cases i with
    | zero => simpa using Sl.no r
    | succ i => simpa using Sl.no (ih i s (by simpa using e))
  | yes r ih =>
    intro i s e
    cases i with
    | zero => simp at e
    | succ i => simpa using Sl.yes (ih i s (by simpa using e))

/-- the state of a def's body: the names' trees and the pairs F beside them -/
def SJ (g : Glb) (b : Bs) (H : Hp) (σ : Sg) (env : En) (F : Prs) : Prop := ∃ ps, Sl σ env ps ∧ JJ g b H (ps ++ F)
section
variable {g : Glb} {b : Bs} {H H' : Hp} {σ : Sg} {env : En} {F F' : Prs} {v : V} {d : D} {i : Nat}
theorem SJ.perm (e : F.Perm F') (j : SJ g b H σ env F) : SJ g b H σ env F' := by
  obtain ⟨ps, s, j⟩ := j
  exact ⟨ps, s, j.perm (e.append_left ps)⟩
/-- what is done to the pairs beside -/
theorem SJ.on (f : ∀ ps, JJ g b H (F ++ ps) → JJ g b H' (F' ++ ps)) (j : SJ g b H σ env F) : SJ g b H' σ env F' := by
  obtain ⟨ps, s, j⟩ := j
  exact ⟨ps, s, (f ps (j.perm List.perm_append_comm)).perm List.perm_append_comm⟩
theorem SJ.drop {p : V × D} (j : SJ g b H σ env (p :: F)) : SJ g b H σ env F := j.on fun ps j => JJ.drop (ps := F ++ ps) j
theorem SJ.dropL (j : SJ g b H σ env (F' ++ F)) : SJ g b H σ env F := by
  induction F' with
  | nil => exact j
  | cons p r ih => exact ih (SJ.drop (F := r ++ F) j)
theorem SJ.freeze (j : SJ g b H σ env ((v, d) :: F)) : SJ g b H σ env ((v, frz d) :: F) := j.on fun ps j => JJ.freeze (ps := F ++ ps) j
theorem SJ.dup (e : frz d = d) (j : SJ g b H σ env ((v, d) :: F)) : SJ g b H σ env ((v, d) :: (v, d) :: F) := j.on fun ps j => JJ.dup (ps := F ++ ps) e j
theorem SJ.add (h : ∀ Z, Rep g H Z v d []) (j : SJ g b H σ env F) : SJ g b H σ env ((v, d) :: F) := j.on fun ps j => JJ.add (ps := F ++ ps) h j
theorem SJ.ext (e : Ext H H') (j : SJ g b H σ env F) : SJ g b H' σ env F := j.on fun ps j => j.ext e
theorem SJ.get (e : env[i]? = some (some d)) (j : SJ g b H σ env F) : ∃ v, σ[i]? = some (some v) ∧ SJ g b H σ (env.set i none) ((v, d) :: F) := by
  obtain ⟨ps, s, j⟩ := j
  obtain ⟨v, qs, h1, h2, h3⟩ := s.take e
  exact ⟨v, h1, qs, h2, j.perm ((h3.append_right F).trans List.perm_middle.symm)⟩
theorem SJ.put (e : env[i]? = some none) (es : σ[i]? = some (some v)) (j : SJ g b H σ env ((v, d) :: F)) : SJ g b H σ (env.set i (some d)) F := by
  obtain ⟨ps, s, j⟩ := j
  obtain ⟨qs, h1, h2⟩ := s.put (d := d) e es
  exact ⟨qs, h1, j.perm (List.perm_middle.trans (h2.append_right F).symm)⟩
theorem SJ.store (l : i < env.length) (j : SJ g b H σ env ((v, d) :: F)) : SJ g b H (σ.set i (some v)) (env.set i (some d)) F := by
  obtain ⟨ps, s, j⟩ := j
  obtain ⟨qs, rs, h1, h2⟩ := s.store v d l
  refine ⟨qs, h1, JJ.dropL (ps := rs) (j.perm (List.perm_middle.trans ?_))⟩
  rw [← List.append_assoc]
  exact h2.append_right F
theorem SJ.forget (i : Nat) (j : SJ g b H σ env F) : SJ g b H σ (env.set i none) F := by
  obtain ⟨ps, s, j⟩ := j
  obtain ⟨qs, rs, h1, h2⟩ := s.forget i
  refine ⟨qs, h1, JJ.dropL (ps := rs) (j.perm ?_)⟩
  rw [← List.append_assoc]
  exact h2.append_right F
theorem SJ.len (j : SJ g b H σ env F) : σ.length = env.length := let ⟨_, s, _⟩ := j; s.len
theorem SJ.wipe (i : Nat) (s : Option V) (e : env[i]? = some none) (j : SJ g b H σ env F) : SJ g b H (σ.set i s) env F := by
  obtain ⟨ps, sl, j⟩ := j
  exact ⟨ps, sl.wipe i s e, j⟩
theorem SJ.newLst {p : Addr} {vs : List V} {ds : List D} (hp : H p = none) (hl : vs.length = ds.length) (j : SJ g b H σ env (vs.zip ds ++ F)) : SJ g b (upd H p (.lst vs)) σ env ((.ref p, .lst true ds) :: F) :=
  j.on fun ps j => JJ.newLst (ps := F ++ ps) hp hl (by rw [← List.append_assoc]; exact j)
theorem SJ.newTup {p : Addr} {vs : List V} {ds : List D} (hp : H p = none) (hl : vs.length = ds.length) (j : SJ g b H σ env (vs.zip ds ++ F)) : SJ g b (upd H p (.tup vs)) σ env ((.ref p, .tup ds) :: F) :=
  j.on fun ps j => JJ.newTup (ps := F ++ ps) hp hl (by rw [← List.append_assoc]; exact j)
theorem SJ.newDct {p : Addr} {es : List (Key × V)} {kvs : List (Key × D)} (hp : H p = none) (hk : es.map (·.1) = kvs.map (·.1)) (j : SJ g b H σ env ((es.map (·.2)).zip (kvs.map (·.2)) ++ F)) : SJ g b (upd H p (.dK es)) σ env ((.ref p, .dct true kvs) :: F) :=
  j.on fun ps j => JJ.newDct (ps := F ++ ps) hp hk (by rw [← List.append_assoc]; exact j)
theorem SJ.openLst {ds : List D} (j : SJ g b H σ env ((v, .lst true ds) :: F)) : ∃ a vs, v = .ref a ∧ H a = some (.lst vs) ∧ vs.length = ds.length ∧ SJ g b H σ env ((.ref a, .raw) :: (vs.zip ds ++ F)) := by
  obtain ⟨ps, s, j⟩ := j
  obtain ⟨a, vs, e, h, l, j2⟩ := JJ.openLst (j.perm List.perm_middle)
  refine ⟨a, vs, e, h, l, ps, s, j2.perm ?_⟩
  have p1 : (vs.zip ds ++ (ps ++ F)).Perm (ps ++ (vs.zip ds ++ F)) := by
    rw [← List.append_assoc, ← List.append_assoc]
    exact List.perm_append_comm.append_right F
  exact (p1.cons _).trans List.perm_middle.symm
theorem SJ.openDct {kvs : List (Key × D)} (j : SJ g b H σ env ((v, .dct true kvs) :: F)) : ∃ a es, v = .ref a ∧ H a = some (.dK es) ∧ es.map (·.1) = kvs.map (·.1) ∧ SJ g b H σ env ((.ref a, .raw) :: ((es.map (·.2)).zip (kvs.map (·.2)) ++ F)) := by
  obtain ⟨ps, s, j⟩ := j
  obtain ⟨a, vs, e, h, l, j2⟩ := JJ.openDct (j.perm List.perm_middle)
  refine ⟨a, vs, e, h, l, ps, s, j2.perm ?_⟩
  have p1 : (((vs.map (·.2)).zip (kvs.map (·.2))) ++ (ps ++ F)).Perm (ps ++ (((vs.map (·.2)).zip (kvs.map (·.2))) ++ F)) := by
    rw [← List.append_assoc, ← List.append_assoc]
    exact List.perm_append_comm.append_right F
  exact (p1.cons _).trans List.perm_middle.symm
theorem SJ.openObj {c : Str} {gs : List (Str × D)} (j : SJ g b H σ env ((v, .obj true c gs) :: F)) : ∃ a C dx fs, v = .ref a ∧ H a = some (.ins C dx fs) ∧ g.cls c = some C ∧ fs.map (·.1) = gs.map (·.1) ∧ SJ g b H σ env ((.ref a, .raw) :: ((fs.map (·.2)).zip (gs.map (·.2)) ++ F)) := by
  obtain ⟨ps, s, j⟩ := j
  obtain ⟨a, C, dx, vs, e, h, hc, l, j2⟩ := JJ.openObj (j.perm List.perm_middle)
  refine ⟨a, C, dx, vs, e, h, hc, l, ps, s, j2.perm ?_⟩
  have p1 : (((vs.map (·.2)).zip (gs.map (·.2))) ++ (ps ++ F)).Perm (ps ++ (((vs.map (·.2)).zip (gs.map (·.2))) ++ F)) := by
    rw [← List.append_assoc, ← List.append_assoc]
    exact List.perm_append_comm.append_right F
  exact (p1.cons _).trans List.perm_middle.symm
theorem SJ.closeLst {a : Addr} {vs : List V} {ds : List D} (hl : vs.length = ds.length) (j : SJ g b H σ env ((.ref a, .raw) :: (vs.zip ds ++ F))) : SJ g b (upd H a (.lst vs)) σ env ((.ref a, .lst true ds) :: F) :=
  j.on fun ps j => JJ.closeLst (ps := F ++ ps) hl (by rw [← List.append_assoc]; exact j)
theorem SJ.closeDct {a : Addr} {es : List (Key × V)} {kvs : List (Key × D)} (hk : es.map (·.1) = kvs.map (·.1)) (j : SJ g b H σ env ((.ref a, .raw) :: ((es.map (·.2)).zip (kvs.map (·.2)) ++ F))) : SJ g b (upd H a (.dK es)) σ env ((.ref a, .dct true kvs) :: F) :=
  j.on fun ps j => JJ.closeDct (ps := F ++ ps) hk (by rw [← List.append_assoc]; exact j)
theorem SJ.closeObj {a C dx : Addr} {c : Str} {fs : List (Str × V)} {gs : List (Str × D)} (hc : g.cls c = some C) (hk : fs.map (·.1) = gs.map (·.1)) (j : SJ g b H σ env ((.ref a, .raw) :: ((fs.map (·.2)).zip (gs.map (·.2)) ++ F))) : SJ g b (upd H a (.ins C dx fs)) σ env ((.ref a, .obj true c gs) :: F) :=
  j.on fun ps j => JJ.closeObj (ps := F ++ ps) hc hk (by rw [← List.append_assoc]; exact j)
end
end TL
end

-- text TL5
section
set_option Elab.async false
set_option linter.all false
set_option maxRecDepth 100000
set_option maxHeartbeats 4000000
namespace TL
open PySem PySem.Spec PyProof.Rows L2

/-! ### a value looked at -/
section
variable (g : Glb) (H : Hp)
mutual
/-- v shows the tree d in H (whoever owns it) -/
inductive Vw : V → D → Prop
  | non : Vw .non .non
  | bl (b : Bool) : Vw (.bl b) (.bl b)
  | int (i : Int) : Vw (.int i) (.int i)
  | str (s : Str) : Vw (.str s) (.str s)
  | tup {a : Addr} {vs : List V} {ds : List D} : SqT g.K H a vs → VwL vs ds → Vw (.ref a) (.tup ds)
  | lst {o : Bool} {a : Addr} {vs : List V} {ds : List D} : SqL g.K H a vs → VwL vs ds → Vw (.ref a) (.lst o ds)
  | dct {o : Bool} {a : Addr} {es : List (Key × V)} {kvs : List (Key × D)} : Rd H a (.dK es) → es.map (·.1) = kvs.map (·.1) → VwL (es.map (·.2)) (kvs.map (·.2)) → Vw (.ref a) (.dct o kvs)
  | obj {o : Bool} {a C dx : Addr} {c : Str} {fs : List (Str × V)} {gs : List (Str × D)} : H a = some (.ins C dx fs) → g.cls c = some C → fs.map (·.1) = gs.map (·.1) → VwL (fs.map (·.2)) (gs.map (·.2)) → Vw (.ref a) (.obj o c gs)
  | fn {x : Str} {v : V} : g.glb x = some v → Vw v (.fn x)
  | hole {v : V} : Vw v (.hole v)
  | raw {v : V} : Vw v .raw
  | junk {v : V} : Vw v .junk
  | exn {v : V} {c : Str} {gs : List (Str × D)} : Vw v (.exn c gs)
  | al {v : V} {d : D} : Vw v d → Vw v (.al v d)
  | frd {v : V} {o : Obj} {es : List (Key × V)} : Vw v (.frd o es)
inductive VwL : List V → List D → Prop
  | nil : VwL [] []
  | cons {v : V} {d : D} {vs : List V} {ds : List D} : Vw v d → VwL vs ds → VwL (v :: vs) (d :: ds)
end
end
section
variable {g : Glb} {H H' : Hp} {Z : Addr → Prop}
theorem KL.sq {a : Addr} {xs : List V} (h : KL g.K a xs) : SqL g.K H a xs := .inr h
theorem KT.sq {a : Addr} {xs : List V} (h : KT g.K a xs) : SqT g.K H a xs := .inr h
mutual
theorem Rep.vw : ∀ {v : V} {d : D} {A : List Addr}, Rep g H Z v d A → Vw g H v d
  | _, _, _, .non => .non
  | _, _, _, .bl b => .bl b
  | _, _, _, .int i => .int i
  | _, _, _, .str s => .str s
  | _, _, _, .tupH h z r => .tup (.inl h) (RepL.vw r)
  | _, _, _, .tupK h r => .tup h.sq (RepL.vw r)
  | _, _, _, .lstF h z r => .lst (.inl h) (RepL.vw r)
  | _, _, _, .lstK h r => .lst h.sq (RepL.vw r)
  | _, _, _, .lstO h r => .lst (.of h) (RepL.vw r)
  | _, _, _, .dctF h z e r => .dct h e (RepL.vw r)
  | _, _, _, .dctO h e r => .dct (.inl h) e (RepL.vw r)
  | _, _, _, .objF h z c e r => .obj h c e (RepL.vw r)
  | _, _, _, .objO h c e r => .obj h c e (RepL.vw r)
  | _, _, _, .fn h => .fn h
  | _, _, _, .hole => .hole
  | _, _, _, .raw h m => .raw
  | _, _, _, .junk => .junk
  | _, _, _, .exn0 h z c => .exn
  | _, _, _, .exn1 h h2 z z2 c e r => .exn
  | _, _, _, .exn2 h z y x c => .exn
  | _, _, _, .al r => .al (Rep.vw r)
  | _, _, _, .frd h z => .frd
theorem RepL.vw : ∀ {vs : List V} {ds : List D} {A : List Addr}, RepL g H Z vs ds A → VwL g H vs ds
  | _, _, _, .nil => .nil
  | _, _, _, .cons h r => .cons (Rep.vw h) (RepL.vw r)
end
theorem sqL_ext {a : Addr} {xs : List V} (e : Ext H H') (h : SqL g.K H a xs) : SqL g.K H' a xs := h.elim (fun h => .inl (rd_keep (e a) h)) .inr
theorem sqT_ext {a : Addr} {xs : List V} (e : Ext H H') (h : SqT g.K H a xs) : SqT g.K H' a xs := h.elim (fun h => .inl (rd_keep (e a) h)) .inr
mutual
theorem Vw.ext (x : Ext H H') : ∀ {v : V} {d : D}, Vw g H v d → Vw g H' v d
  | _, _, .non => .non
  | _, _, .bl b => .bl b
  | _, _, .int i => .int i
  | _, _, .str s => .str s
  | _, _, .tup h r => .tup (sqT_ext x h) (VwL.ext x r)
  | _, _, .lst h r => .lst (sqL_ext x h) (VwL.ext x r)
  | _, _, .dct h e r => .dct (rd_keep (x _) h) e (VwL.ext x r)
  | _, _, .obj h c e r => .obj (x _ _ h) c e (VwL.ext x r)
  | _, _, .fn h => .fn h
  | _, _, .hole => .hole
  | _, _, .raw => .raw
  | _, _, .junk => .junk
  | _, _, .exn => .exn
  | _, _, .al r => .al (Vw.ext x r)
  | _, _, .frd => .frd
theorem VwL.ext (x : Ext H H') : ∀ {vs : List V} {ds : List D}, VwL g H vs ds → VwL g H' vs ds
  | _, _, .nil => .nil
  | _, _, .cons h r => .cons (Vw.ext x h) (VwL.ext x r)
end
theorem VwL.length : ∀ {vs : List V} {ds : List D}, VwL g H vs ds → vs.length = ds.length
  | _, _, .nil => rfl
  | _, _, .cons _ r => congrArg Nat.succ (VwL.length r)
theorem VwL.get : ∀ {vs : List V} {ds : List D} {i : Nat} {d : D}, VwL g H vs ds → ds[i]? = some d → ∃ v, vs[i]? = some v ∧ Vw g H v d
  | _, _, _, _, .nil, e => by simp at e
  | _, _, 0, _, .cons h r, e => by
    obtain rfl := Option.some.inj e
    exact ⟨_, rfl, h⟩
  | _, _, i + 1, d, .cons h r, e => by
    obtain ⟨v, h1, h2⟩ := VwL.get (i := i) (d := d) r (by simpa using e)
    exact ⟨v, by simpa using h1, h2⟩
end

/-! ### meanings -/
/-- what an evaluation comes to: a result, an exception of the program's class c, or nothing that is promised -/
inductive Rs (α : Type) where
  | ok (a : α) (e : En)
  | exc (c : Str) (fs : List (Str × D)) (e : En)
  | bad
def Rs.bind {α β : Type} (r : Rs α) (k : α → En → Rs β) : Rs β := match r with
  | .ok a e => k a e
  | .exc c fs e => .exc c fs e
  | .bad => .bad
abbrev M (α : Type) := En → Rs α
inductive CR where
  | ok (d : D) (outs : List D)
  | exc (c : Str) (fs : List (Str × D)) (outs : List D)
  | bad
abbrev Orc := Str → List D → CR

/-- where a def's body stands -/
structure Cs where
  g : Glb
  P : Program
  w : World
  mg : Str → Option Value
  base : Heap
  N : List Str
  k : Nat
  C : Orc
  /-- the code object of the def and the front of its inner names, where they are asked for -/
  cd : Option (Addr × Str)
structure Good (Γ : Cs) (sc : Scope) (X : Cx) : Prop where
  prog : X.prog = Γ.P
  w : X.w = Γ.w
  K : X.K = Γ.g.K
  mg : X.mg = Γ.mg
  base : X.base = Γ.base
  N : X.N = Γ.N
  nd : Γ.N.Nodup
  sc : X.env.scope = sc
  calm : X.calm = true
  room : Room Γ.k X.A
  pass : PassesOwn (model X.prog X.w) X.A X.env X.xe
  code : ∀ c q, Γ.cd = some (c, q) → X.env.code = .ref c ∧ X.env.qual = q
theorem Good.hu {Γ : Cs} {sc : Scope} {X : Cx} (G : Good Γ sc X) : X.A.units + 64 < cLine := G.room.units
theorem Good.hu1 {Γ : Cs} {sc : Scope} {X : Cx} (G : Good Γ sc X) : X.A.units + 1 < cLine := hu_of G.room

section
variable (g : Glb) (b : Bs) (p : Bool) (W : L2.WX) (σ : Sg) (H : Hp) (F : Prs)
/-- an exception leaves -/
def XW (e : En) (c : Str) (fs : List (Str × D)) : Prop := ∀ (C d : Addr) (H' : Hp) (vfs : List (Str × V)), g.cls c = some C → H' d = some (.xd vfs) → vfs.map (·.1) = fs.map (·.1) →
  SJ g b H' σ e ((vfs.map (·.2)).zip (fs.map (·.2)) ++ F) → W (.ref C) (some d) σ H'
def PoE (Q : VK) : Rs D → Prop
  | .ok d e => ∀ v H', SJ g b H' σ e ((v, d) :: F) → (p = true → Ext H H') → Q v H'
  | .exc c fs e => XW g b W σ F e c fs
  | .bad => False
/-- looked at alone -/
def PoV (Q : VK) : Rs D → Prop
  | .ok d e => ∀ v H', SJ g b H' σ e F → Vw g H' v d → (p = true → Ext H H') → Q v H'
  | .exc c fs e => XW g b W σ F e c fs
  | .bad => False
def PoT (Q : Bool → Hp → Prop) : Rs Bool → Prop
  | .ok t e => ∀ H', SJ g b H' σ e F → (p = true → Ext H H') → Q t H'
  | .exc c fs e => XW g b W σ F e c fs
  | .bad => False
def PoA (Q : List V → Hp → Prop) : Rs (List D) → Prop
  | .ok ds e => ∀ vs H', vs.length = ds.length → SJ g b H' σ e (vs.zip ds ++ F) → (p = true → Ext H H') → Q vs H'
  | .exc c fs e => XW g b W σ F e c fs
  | .bad => False
end
def rdE (g : Glb) (p : Bool) (W : L2.WX) (m : M D) : TE := fun σ H Q => ∃ b env F, SJ g b H σ env F ∧ PoE g b p W σ H F Q (m env)
def rdV (g : Glb) (p : Bool) (W : L2.WX) (m : M D) : TE := fun σ H Q => ∃ b env F, SJ g b H σ env F ∧ PoV g b p W σ H F Q (m env)
def rdT (g : Glb) (p : Bool) (W : L2.WX) (m : M Bool) : TT := fun σ H Q => ∃ b env F, SJ g b H σ env F ∧ PoT g b p W σ H F Q (m env)
def rdA (g : Glb) (p : Bool) (W : L2.WX) (m : M (List D)) : TA := fun σ H Q => ∃ b env F, SJ g b H σ env F ∧ PoA g b p W σ H F Q (m env)
/-- e means m; p: no object that stood is changed -/
def SE (Γ : Cs) (sc : Scope) (p : Bool) (e : Expr) (m : M D) : Prop := ∀ X W, Good Γ sc X → Takes X W → PE X e (rdE Γ.g p W m)
def SV (Γ : Cs) (sc : Scope) (p : Bool) (e : Expr) (m : M D) : Prop := ∀ X W, Good Γ sc X → Takes X W → PE X e (rdV Γ.g p W m)
def ST (Γ : Cs) (sc : Scope) (p : Bool) (e : Expr) (m : M Bool) : Prop := ∀ X W, Good Γ sc X → Takes X W → PT X e (rdT Γ.g p W m)
def SA (Γ : Cs) (sc : Scope) (p : Bool) (es : List Expr) (m : M (List D)) : Prop := ∀ X W, Good Γ sc X → Takes X W → PA X es (rdA Γ.g p W m)

theorem PE.imp {X : Cx} {e : Expr} {t t' : TE} (h : PE X e t) (i : ∀ σ H Q, t' σ H Q → t σ H Q) : PE X e t' := ⟨fun pins s σ H Q I hw => h.run pins s σ H Q I (i σ H Q hw)⟩
theorem PT.imp {X : Cx} {e : Expr} {t t' : TT} (h : PT X e t) (i : ∀ σ H Q, t' σ H Q → t σ H Q) : PT X e t' := ⟨fun pins s σ H Q I hw => h.run pins s σ H Q I (i σ H Q hw)⟩
theorem PA.imp {X : Cx} {es : List Expr} {t t' : TA} (h : PA X es t) (i : ∀ σ H Q, t' σ H Q → t σ H Q) : PA X es t' := ⟨fun pos pins s σ H Q I hw => h.run pos pins s σ H Q I (i σ H Q hw)⟩

section
variable {g : Glb} {b : Bs} {p q : Bool} {W : L2.WX} {σ : Sg} {H H' : Hp} {F : Prs} {env e : En} {α : Type}
theorem XW.more {x : V × D} {c : Str} {fs : List (Str × D)} (h : XW g b W σ F e c fs) : XW g b W σ (x :: F) e c fs := fun C d H' vfs h1 h2 h3 j =>
  h C d H' vfs h1 h2 h3 (SJ.drop (p := x) (j.perm List.perm_middle))
theorem XW.moreL {F' : Prs} {c : Str} {fs : List (Str × D)} (h : XW g b W σ F e c fs) : XW g b W σ (F' ++ F) e c fs := by
  induction F' with
  | nil => exact h
  | cons x r ih => exact ih.more
/-- from the whole's promise S to the first part's -/
theorem PoE.into {r : Rs D} {k : D → En → Rs α} {Q : VK} (S : Rs α → Prop) (hx : ∀ c fs e, S (.exc c fs e) → XW g b W σ F e c fs) (hb : S .bad → False) (h : S (r.bind k))
    (go : ∀ d e v H', S (k d e) → SJ g b H' σ e ((v, d) :: F) → (p = true → Ext H H') → Q v H') : PoE g b p W σ H F Q r := by
  cases r with
  | ok d e => exact fun v H' j x => go d e v H' h j x
  | exc c fs e => exact hx c fs e h
  | bad => exact hb h
theorem PoV.into {r : Rs D} {k : D → En → Rs α} {Q : VK} (S : Rs α → Prop) (hx : ∀ c fs e, S (.exc c fs e) → XW g b W σ F e c fs) (hb : S .bad → False) (h : S (r.bind k))
    (go : ∀ d e v H', S (k d e) → SJ g b H' σ e F → Vw g H' v d → (p = true → Ext H H') → Q v H') : PoV g b p W σ H F Q r := by
  cases r with
  | ok d e => exact fun v H' j w x => go d e v H' h j w x
  | exc c fs e => exact hx c fs e h
  | bad => exact hb h
theorem PoT.into {r : Rs Bool} {k : Bool → En → Rs α} {Q : Bool → Hp → Prop} (S : Rs α → Prop) (hx : ∀ c fs e, S (.exc c fs e) → XW g b W σ F e c fs) (hb : S .bad → False) (h : S (r.bind k))
    (go : ∀ t e H', S (k t e) → SJ g b H' σ e F → (p = true → Ext H H') → Q t H') : PoT g b p W σ H F Q r := by
  cases r with
  | ok t e => exact fun H' j x => go t e H' h j x
  | exc c fs e => exact hx c fs e h
  | bad => exact hb h
theorem PoA.into {r : Rs (List D)} {k : List D → En → Rs α} {Q : List V → Hp → Prop} (S : Rs α → Prop) (hx : ∀ c fs e, S (.exc c fs e) → XW g b W σ F e c fs) (hb : S .bad → False) (h : S (r.bind k))
    (go : ∀ ds e vs H', S (k ds e) → vs.length = ds.length → SJ g b H' σ e (vs.zip ds ++ F) → (p = true → Ext H H') → Q vs H') : PoA g b p W σ H F Q r := by
  cases r with
  | ok ds e => exact fun vs H' l j x => go ds e vs H' h l j x
  | exc c fs e => exact hx c fs e h
  | bad => exact hb h
theorem SJ.vw {i : Nat} {d : D} (e : env[i]? = some (some d)) (j : SJ g b H σ env F) : ∃ v, σ[i]? = some (some v) ∧ Vw g H v d := by
  obtain ⟨v, h1, ps, s, A, r, _⟩ := j.get e
  obtain ⟨B, C, _, h2, h3⟩ := r.split
  obtain ⟨_, _, _, h4, _⟩ := h3.inv
  exact ⟨v, h1, h4.vw⟩
theorem SJ.vwF {v : V} {d : D} (j : SJ g b H σ env ((v, d) :: F)) : Vw g H v d := by
  obtain ⟨ps, s, A, r, _⟩ := j
  obtain ⟨B, C, _, h2, h3⟩ := r.split
  obtain ⟨_, _, _, h4, _⟩ := h3.inv
  exact h4.vw
theorem ext_and {p q : Bool} {H H1 H2 : Hp} (h1 : p = true → Ext H H1) (h2 : q = true → Ext H1 H2) : (p && q) = true → Ext H H2 := fun h => by
  obtain ⟨a, c⟩ := Bool.and_eq_true_iff.mp h
  exact (h1 a).trans (h2 c)
end
end TL
end

-- text TL6
section
set_option Elab.async false
set_option linter.all false
set_option maxRecDepth 100000
set_option maxHeartbeats 4000000
namespace TL
open PySem PySem.Spec PyProof.Rows L2

/-! ### atoms -/
def isAt : D → Bool
  | .non | .bl _ | .int _ | .str _ => true
  | _ => false
def vOf : D → V
  | .bl b => .bl b | .int i => .int i | .str s => .str s
  | _ => .non
theorem rep_at {g : Glb} {H : Hp} {Z : Addr → Prop} {d : D} (h : isAt d = true) : Rep g H Z (vOf d) d [] := by
  cases d <;> first | exact .non | exact .bl _ | exact .int _ | exact .str _ | cases h
theorem vw_at {g : Glb} {H : Hp} {v : V} {d : D} (h : isAt d = true) (w : Vw g H v d) : v = vOf d := by
  cases w <;> first | rfl | cases h
theorem frz_at {d : D} (h : isAt d = true) : frz d = d := by cases d <;> first | rfl | cases h

/-! ### truth -/
def truD : D → Option Bool
  | .non => some false
  | .bl b => some b
  | .int i => some (i != 0)
  | .str s => if s.length ≤ sizeLine then some ((s.length : Int) != 0) else none
  | .lst _ xs => some (!xs.isEmpty)
  | .tup xs => some (!xs.isEmpty)
  | _ => none
theorem truV_of {g : Glb} {H : Hp} {v : V} {d : D} {k : Bool} (w : Vw g H v d) (e : truD d = some k) : TruV g.K v H k := by
  cases w with
  | non => exact (Option.some.inj e).symm
  | bl b => exact (Option.some.inj e).symm
  | int i => exact (Option.some.inj e).symm
  | str s =>
    have e' : (if s.length ≤ sizeLine then some ((s.length : Int) != 0) else none) = some k := e
    clear e
    have e := e'
    split at e
    · rename_i h
      exact ⟨h, (Option.some.inj e).symm⟩
    · cases e
  | @tup a vs ds h r =>
    refine .inr (.inl ⟨vs, h, ?_⟩)
    rw [← Option.some.inj e]
    cases r <;> rfl
  | @lst o a vs ds h r =>
    refine .inl ⟨vs, h, ?_⟩
    rw [← Option.some.inj e]
    cases r <;> rfl
  | _ => cases e

section
variable {Γ : Cs} {sc : Scope} {p pa pb pc : Bool} {a c e : Expr} {ma mb mc : M D} {pos pos' : Pos}

/-! ### constants, names -/
def mC (d : D) : M D := fun env => .ok d env
theorem SE_c {t : V} {d : D} (he : ∀ X : Cx, PE X e (tC t)) (hr : ∀ H Z, Rep Γ.g H Z t d []) : SE Γ sc true e (mC d) := fun X W G T =>
  PE.imp (he X) fun σ H Q ⟨b, env, F, j, h⟩ => h t H (j.add (hr H)) fun _ => Ext.refl H
theorem SE_int {i : Int} {j : Nat} : SE Γ sc true (.Constant (.int i) j pos) (mC (.int i)) := SE_c (fun _ => pe_int) fun _ _ => .int i
theorem SE_str {s : Str} {j : Nat} : SE Γ sc true (.Constant (.str s) j pos) (mC (.str s)) := SE_c (fun _ => pe_str) fun _ _ => .str s
theorem SE_bl {i : Bool} {j : Nat} : SE Γ sc true (.Constant (.bool i) j pos) (mC (.bl i)) := SE_c (fun _ => pe_bl) fun _ _ => .bl i
theorem SE_non {j : Nat} : SE Γ sc true (.Constant .none j pos) (mC .non) := SE_c (fun _ => pe_non) fun _ _ => .non
/-- a name, had by the result too: what it stands for is frozen -/
def mGet (i : Nat) : M D := fun env => match env[i]? with
  | some (some d) => .ok (frz d) (env.set i (some (frz d)))
  | _ => .bad
/-- a name that is not asked again -/
def mMov (i : Nat) : M D := fun env => match env[i]? with
  | some (some d) => .ok d (env.set i none)
  | _ => .bad
def mPeek (i : Nat) : M D := fun env => match env[i]? with
  | some (some d) => .ok d env
  | _ => .bad
theorem set_none_get {env : En} {i : Nat} {x : Option D} (h : env[i]? = some x) : (env.set i none)[i]? = some none := by
  obtain ⟨l, _⟩ := List.getElem?_eq_some_iff.mp h
  rw [List.getElem?_set_self l]
theorem set_none_set {env : En} {i : Nat} {x : Option D} : (env.set i none).set i x = env.set i x := by rw [List.set_set]
theorem SE_name (i : Nat) {x : Str} (hN : Γ.N[i]? = some x) (hv : Vis sc x) (hd : (x == ("__debug__" : Str)) = false := by decide) (hcd : (x == ("__classdict__" : Str)) = false := by decide) : SE Γ sc true (.Name x pos) (mGet i) := fun X W G T =>
  PE.imp (pe_var (by rw [G.N]; exact hN) (by rw [G.sc]; exact hv) hd hcd) fun σ H Q ⟨b, env, F, j, h⟩ => by
    unfold mGet at h
    split at h
    · rename_i d e
      obtain ⟨v, h1, j1⟩ := j.get e
      have j2 := (SJ.freeze j1).dup (by rw [frz_idem])
      have j3 := SJ.put (set_none_get e) h1 j2
      rw [set_none_set] at j3
      exact ⟨v, h1, h v H j3 fun _ => Ext.refl H⟩
    · exact h.elim
theorem SE_mov (i : Nat) {x : Str} (hN : Γ.N[i]? = some x) (hv : Vis sc x) (hd : (x == ("__debug__" : Str)) = false := by decide) (hcd : (x == ("__classdict__" : Str)) = false := by decide) : SE Γ sc true (.Name x pos) (mMov i) := fun X W G T =>
  PE.imp (pe_var (by rw [G.N]; exact hN) (by rw [G.sc]; exact hv) hd hcd) fun σ H Q ⟨b, env, F, j, h⟩ => by
    unfold mMov at h
    split at h
    · rename_i d e
      obtain ⟨v, h1, j1⟩ := j.get e
      exact ⟨v, h1, h v H j1 fun _ => Ext.refl H⟩
    · exact h.elim
theorem SV_name (i : Nat) {x : Str} (hN : Γ.N[i]? = some x) (hv : Vis sc x) (hd : (x == ("__debug__" : Str)) = false := by decide) (hcd : (x == ("__classdict__" : Str)) = false := by decide) : SV Γ sc true (.Name x pos) (mPeek i) := fun X W G T =>
  PE.imp (pe_var (by rw [G.N]; exact hN) (by rw [G.sc]; exact hv) hd hcd) fun σ H Q ⟨b, env, F, j, h⟩ => by
    unfold mPeek at h
    split at h
    · rename_i d e
      obtain ⟨v, h1, w⟩ := j.vw e
      exact ⟨v, h1, h v H j w fun _ => Ext.refl H⟩
    · exact h.elim
/-- a value had is one looked at -/
theorem SE.toV (h : SE Γ sc p e ma) : SV Γ sc p e ma := fun X W G T => PE.imp (h X W G T) fun σ H Q ⟨b, env, F, j, h⟩ =>
  ⟨b, env, F, j, by
    cases hm : ma env with
    | ok d e' =>
      rw [hm] at h
      exact fun v H' j x => h v H' j.drop j.vwF x
    | exc c fs e' => rw [hm] at h; exact h
    | bad => rw [hm] at h; exact h⟩
/-- an atom looked at is had -/
def mAt (m : M D) : M D := fun env => (m env).bind fun d e => if isAt d = true then .ok d e else .bad
theorem SV.toE (h : SV Γ sc p e ma) : SE Γ sc p e (mAt ma) := fun X W G T => PE.imp (h X W G T) fun σ H Q ⟨b, env, F, j, h⟩ =>
  ⟨b, env, F, j, PoV.into (PoE Γ.g b p W σ H F Q) (fun _ _ _ h => h) (fun h => h) h fun d e v H' h j w x => by
    by_cases q : isAt d = true
    · rw [if_pos q] at h
      rw [vw_at q w]
      exact h _ _ (j.add fun Z => rep_at q) x
    · rw [if_neg q] at h
      exact h.elim⟩

/-! ### two operands -/
/-- an operation upon what is looked at, its result an atom -/
def OpV (g : Glb) (f : D → D → Option D) (r : R2) : Prop := ∀ (H : Hp) (x y : V) (dx dy dz : D) (Q : VK), Vw g H x dx → Vw g H y dy → f dx dy = some dz → (∀ v, (∀ H Z, Rep g H Z v dz []) → Q v H) → r x y H Q
def mBin (f : D → D → Option D) (ma mb : M D) : M D := fun env => (ma env).bind fun x e1 => (mb e1).bind fun y e2 => match f x y with
  | some z => .ok z e2
  | none => .bad
theorem rd_binV {g : Glb} {f : D → D → Option D} {r : R2} {W : L2.WX} (hs : OpV g f r) {σ : Sg} {H : Hp} {Q : VK} (h : rdE g pa W (mBin f ma mb) σ H Q) : tOp r (rdV g pa W ma) (rdV g true W mb) σ H Q := by
  obtain ⟨b, env, F, j, h⟩ := h
  refine ⟨b, env, F, j, PoV.into (PoE g b pa W σ H F Q) (fun _ _ _ h => h) (fun h => h) h fun dx e1 x H1 h j1 w1 x1 => ?_⟩
  refine ⟨b, e1, F, j1, PoV.into (PoE g b pa W σ H F Q) (fun _ _ _ h => h) (fun h => h) h fun dy e2 y H2 h j2 w2 x2 => ?_⟩
  cases e : f dx dy with
  | none => rw [e] at h; exact h.elim
  | some dz =>
    rw [e] at h
    exact hs H2 x y dx dy dz Q (w1.ext (x2 rfl)) w2 e fun v rv => h v H2 (j2.add (rv H2)) fun hp => (x1 hp).trans (x2 rfl)
theorem rd_binE {g : Glb} {f : D → D → Option D} {r : R2} {W : L2.WX} (hs : OpV g f r) {σ : Sg} {H : Hp} {Q : VK} (h : rdE g (pa && pb) W (mBin f ma mb) σ H Q) : tOp r (rdE g pa W ma) (rdE g pb W mb) σ H Q := by
  obtain ⟨b, env, F, j, h⟩ := h
  refine ⟨b, env, F, j, PoE.into (PoE g b (pa && pb) W σ H F Q) (fun _ _ _ h => h) (fun h => h) h fun dx e1 x H1 h j1 x1 => ?_⟩
  refine ⟨b, e1, (x, dx) :: F, j1, PoE.into (PoE g b (pa && pb) W σ H F Q) (fun _ _ _ h => XW.more h) (fun h => h) h fun dy e2 y H2 h j2 x2 => ?_⟩
  cases e : f dx dy with
  | none => rw [e] at h; exact h.elim
  | some dz =>
    rw [e] at h
    exact hs H2 x y dx dy dz Q (SJ.vwF j2.drop) j2.vwF e fun v rv => h v H2 (j2.drop.drop.add (rv H2)) (ext_and x1 x2)
theorem SE_binV {op : Operator} {f : D → D → Option D} {r : R2} (ho : ∀ X, Good Γ sc X → OpR X (binaryOp op) r) (hs : OpV Γ.g f r) (ha : SV Γ sc pa a ma) (hb : SV Γ sc true c mb) : SE Γ sc pa (.BinOp a op c pos) (mBin f ma mb) := fun X W G T =>
  PE.imp (pe_op (ho X G) (ha X W G T) (hb X W G T)) fun σ H Q => rd_binV hs
theorem SE_binE {op : Operator} {f : D → D → Option D} {r : R2} (ho : ∀ X, Good Γ sc X → OpR X (binaryOp op) r) (hs : OpV Γ.g f r) (ha : SE Γ sc pa a ma) (hb : SE Γ sc pb c mb) : SE Γ sc (pa && pb) (.BinOp a op c pos) (mBin f ma mb) := fun X W G T =>
  PE.imp (pe_op (ho X G) (ha X W G T) (hb X W G T)) fun σ H Q => rd_binE hs
theorem SE_cmpV {op : CmpOp} {f : D → D → Option D} {r : R2} (ho : ∀ X, Good Γ sc X → OpR X (compareOp op) r) (hs : OpV Γ.g f r) (ha : SV Γ sc pa a ma) (hb : SV Γ sc true c mb) (hm : behindInMarks op c = false) : SE Γ sc pa (.Compare a [op] [c] pos) (mBin f ma mb) := fun X W G T =>
  PE.imp (pe_cmpR (ho X G) (ha X W G T) (hb X W G T) hm) fun σ H Q => rd_binV hs
theorem SE_cmpE {op : CmpOp} {f : D → D → Option D} {r : R2} (ho : ∀ X, Good Γ sc X → OpR X (compareOp op) r) (hs : OpV Γ.g f r) (ha : SE Γ sc pa a ma) (hb : SE Γ sc pb c mb) (hm : behindInMarks op c = false) : SE Γ sc (pa && pb) (.Compare a [op] [c] pos) (mBin f ma mb) := fun X W G T =>
  PE.imp (pe_cmpR (ho X G) (ha X W G T) (hb X W G T) hm) fun σ H Q => rd_binE hs
/-! ### tests -/
def mTru (m : M D) : M Bool := fun env => (m env).bind fun d e => match truD d with
  | some t => .ok t e
  | none => .bad
/-- what gives a truth -/
def Bls (f : D → D → Option D) : Prop := ∀ x y z, f x y = some z → ∃ t, z = .bl t
theorem rd_test {g : Glb} {W : L2.WX} {m : M D} {t : TE} (hm : ∀ env d e, m env = .ok d e → ∃ t, d = .bl t) (i : ∀ σ H Q, rdE g p W m σ H Q → t σ H Q) {σ : Sg} {H : Hp} {Q : Bool → Hp → Prop} (h : rdT g p W (mTru m) σ H Q) : tTest t σ H Q := by
  obtain ⟨b, env, F, j, h⟩ := h
  refine i σ H _ ⟨b, env, F, j, ?_⟩
  unfold mTru at h
  cases q : m env with
  | ok d e =>
    rw [q] at h
    obtain ⟨t, rfl⟩ := hm env d e q
    intro v H' j' x
    have w := j'.vwF
    cases w
    exact ⟨t, rfl, h H' j'.drop x⟩
  | exc c fs e => rw [q] at h; exact h
  | bad => rw [q] at h; exact h
theorem mBin_bl {f : D → D → Option D} (hb : Bls f) : ∀ env d e, mBin f ma mb env = .ok d e → ∃ t, d = .bl t := fun env d e h => by
  unfold mBin at h
  cases q : ma env with
  | ok x e1 =>
    rw [q] at h
    unfold Rs.bind at h
    dsimp only at h
    cases q2 : mb e1 with
    | ok y e2 =>
      rw [q2] at h
      dsimp only at h
      cases q3 : f x y with
      | none => rw [q3] at h; cases h
      | some z =>
        rw [q3] at h
        injection h with h1 _
        subst h1
        exact hb x y z q3
    | exc c fs e => rw [q2] at h; cases h
    | bad => rw [q2] at h; cases h
  | exc c fs e => rw [q] at h; cases h
  | bad => rw [q] at h; cases h
theorem ST_cmpV {op : CmpOp} {f : D → D → Option D} {r : R2} (ho : ∀ X, Good Γ sc X → OpR X (compareOp op) r) (hs : OpV Γ.g f r) (hl : Bls f) (ha : SV Γ sc pa a ma) (hb : SV Γ sc true c mb) (hm : behindInMarks op c = false) : ST Γ sc pa (.Compare a [op] [c] pos) (mTru (mBin f ma mb)) := fun X W G T =>
  PT.imp (pt_cmpR (ho X G) (ha X W G T) (hb X W G T) hm) fun σ H Q => rd_test (mBin_bl hl) fun σ H Q => rd_binV hs
theorem ST_cmpE {op : CmpOp} {f : D → D → Option D} {r : R2} (ho : ∀ X, Good Γ sc X → OpR X (compareOp op) r) (hs : OpV Γ.g f r) (hl : Bls f) (ha : SE Γ sc pa a ma) (hb : SE Γ sc pb c mb) (hm : behindInMarks op c = false) : ST Γ sc (pa && pb) (.Compare a [op] [c] pos) (mTru (mBin f ma mb)) := fun X W G T =>
  PT.imp (pt_cmpR (ho X G) (ha X W G T) (hb X W G T) hm) fun σ H Q => rd_test (mBin_bl hl) fun σ H Q => rd_binE hs
/-- the truth of a value -/
theorem ST_tru (h : SV Γ sc p e ma) (he : ∀ env whole, isTrue e env whole = (do let v ← whole; standAt e.pos; holding [v] (truthy v)) := by intro _ _; rfl) : ST Γ sc p e (mTru ma) := fun X W G T =>
  PT.imp (pt_truth (h X W G T) (he X.env)) fun σ H Q ⟨b, env, F, j, h⟩ => ⟨b, env, F, j, PoV.into (PoT Γ.g b p W σ H F Q) (fun _ _ _ h => h) (fun h => h) h fun d e v H' h j w x => by
    cases q : truD d with
    | none => rw [q] at h; exact h.elim
    | some t =>
      rw [q] at h
      exact ⟨t, by rw [G.K]; exact truV_of w q, h H' j x⟩⟩
def mNotT (m : M Bool) : M Bool := fun env => (m env).bind fun t e => .ok (!t) e
theorem ST_not {m : M Bool} (h : ST Γ sc p e m) : ST Γ sc p (.UnaryOp .Not e pos) (mNotT m) := fun X W G T =>
  PT.imp (pt_not (h X W G T)) fun σ H Q ⟨b, env, F, j, h⟩ => ⟨b, env, F, j, PoT.into (PoT Γ.g b p W σ H F Q) (fun _ _ _ h => h) (fun h => h) h fun t e H' h j x => h H' j x⟩
def mAndT (m n : M Bool) : M Bool := fun env => (m env).bind fun t e => if t = true then n e else .ok false e
def mOrT (m n : M Bool) : M Bool := fun env => (m env).bind fun t e => if t = true then .ok true e else n e
/-- and, or: whatever the whole is -/
def STw (Γ : Cs) (sc : Scope) (p : Bool) (e : Expr) (m : M Bool) : Prop := ∀ X W, Good Γ sc X → Takes X W → PW X e (rdT Γ.g p W m)
theorem PW.imp {X : Cx} {e : Expr} {t t' : TT} (h : PW X e t) (i : ∀ σ H Q, t' σ H Q → t σ H Q) : PW X e t' := ⟨fun wh pins s σ H Q I hw => h.run wh pins s σ H Q I (i σ H Q hw)⟩
theorem STw.t {m : M Bool} (h : STw Γ sc p e m) : ST Γ sc p e m := fun X W G T => (h X W G T).pt
theorem STw_and1 {m : M Bool} (h : ST Γ sc p a m) : STw Γ sc p (.BoolOp .And [a] pos) m := fun X W G T => pw_and1 (h X W G T)
theorem STw_or1 {m : M Bool} (h : ST Γ sc p a m) : STw Γ sc p (.BoolOp .Or [a] pos) m := fun X W G T => pw_or1 (h X W G T)
theorem PoT.weak {g : Glb} {b : Bs} {W : L2.WX} {σ : Sg} {H : Hp} {F : Prs} {Q : Bool → Hp → Prop} {r : Rs Bool} {H1 : Hp} (x : pa = true → Ext H H1) (h : PoT g b (pa && pb) W σ H F Q r) : PoT g b pb W σ H1 F Q r := by
  cases r with
  | ok t e => exact fun H' j y => h H' j (ext_and x y)
  | exc c fs e => exact h
  | bad => exact h
theorem PoE.weak {g : Glb} {b : Bs} {W : L2.WX} {σ : Sg} {H : Hp} {F : Prs} {Q : VK} {r : Rs D} {H1 : Hp} (x : pa = true → Ext H H1) (h : PoE g b (pa && pb) W σ H F Q r) : PoE g b pb W σ H1 F Q r := by
  cases r with
  | ok t e => exact fun v H' j y => h v H' j (ext_and x y)
  | exc c fs e => exact h
  | bad => exact h
theorem PoV.weak {g : Glb} {b : Bs} {W : L2.WX} {σ : Sg} {H : Hp} {F : Prs} {Q : VK} {r : Rs D} {H1 : Hp} (x : pa = true → Ext H H1) (h : PoV g b (pa && pb) W σ H F Q r) : PoV g b pb W σ H1 F Q r := by
  cases r with
  | ok t e => exact fun v H' j w y => h v H' j w (ext_and x y)
  | exc c fs e => exact h
  | bad => exact h
theorem STw_and {rest : List Expr} {m n : M Bool} (h : ST Γ sc pa a m) (k : STw Γ sc pb (.BoolOp .And (c :: rest) pos) n) : STw Γ sc (pa && pb) (.BoolOp .And (a :: c :: rest) pos) (mAndT m n) := fun X W G T =>
  PW.imp (pw_and (h X W G T) (k X W G T)) fun σ H Q ⟨b, env, F, j, h⟩ => ⟨b, env, F, j, PoT.into (PoT Γ.g b (pa && pb) W σ H F Q) (fun _ _ _ h => h) (fun h => h) h fun t e H' h j x => by
    cases t with
    | true => exact ⟨b, e, F, j, PoT.weak x h⟩
    | false => exact h H' j fun q => x (Bool.and_eq_true_iff.mp q).1⟩
theorem STw_or {rest : List Expr} {m n : M Bool} (h : ST Γ sc pa a m) (k : STw Γ sc pb (.BoolOp .Or (c :: rest) pos) n) : STw Γ sc (pa && pb) (.BoolOp .Or (a :: c :: rest) pos) (mOrT m n) := fun X W G T =>
  PW.imp (pw_or (h X W G T) (k X W G T)) fun σ H Q ⟨b, env, F, j, h⟩ => ⟨b, env, F, j, PoT.into (PoT Γ.g b (pa && pb) W σ H F Q) (fun _ _ _ h => h) (fun h => h) h fun t e H' h j x => by
    cases t with
    | true => exact h H' j fun q => x (Bool.and_eq_true_iff.mp q).1
    | false => exact ⟨b, e, F, j, PoT.weak x h⟩⟩
/-- e1 if t else e2 -/
def mIf {α : Type} (t : M Bool) (m n : M α) : M α := fun env => (t env).bind fun b e => if b = true then m e else n e
theorem SE_if {t : Expr} {mt : M Bool} (ht : ST Γ sc pc t mt) (ha : SE Γ sc pa a ma) (hb : SE Γ sc pb c mb) : SE Γ sc (pc && (pa && pb)) (.IfExp t a c pos) (mIf mt ma mb) := fun X W G T =>
  PE.imp (pe_ifExp (ht X W G T) (ha X W G T) (hb X W G T)) fun σ H Q ⟨b, env, F, j, h⟩ => ⟨b, env, F, j, PoT.into (PoE Γ.g b (pc && (pa && pb)) W σ H F Q) (fun _ _ _ h => h) (fun h => h) h fun t e H' h j x => by
    cases t with
    | true =>
      have h2 : PoE Γ.g b (pa && pb) W σ H' F Q (ma e) := PoE.weak x h
      rw [Bool.and_comm] at h2
      exact ⟨b, e, F, j, PoE.weak (pa := pb) (fun _ => Ext.refl _) h2⟩
    | false =>
      have h2 : PoE Γ.g b (pa && pb) W σ H' F Q (mb e) := PoE.weak x h
      exact ⟨b, e, F, j, PoE.weak (pa := pa) (fun _ => Ext.refl _) h2⟩⟩
end
end TL
end

-- text TL7
section
set_option Elab.async false
set_option linter.all false
set_option maxRecDepth 100000
set_option maxHeartbeats 4000000
namespace TL
open PySem PySem.Spec PyProof.Rows L2

/-! ### frozen -/
mutual
def isFrz : D → Bool
  | .tup xs => isFrzL xs
  | .lst o xs => !o && isFrzL xs
  | .dct o kvs => !o && isFrzK kvs
  | .obj o _ fs => !o && isFrzF fs
  | .exn _ fs => isFrzF fs
  | .raw => false
  | .non => true | .bl _ => true | .int _ => true | .str _ => true | .fn _ => true | .hole _ => true | .junk => true
  | .al _ d => isFrz d
  | .frd _ _ => true
def isFrzL : List D → Bool
  | [] => true
  | x :: xs => isFrz x && isFrzL xs
def isFrzK : List (Key × D) → Bool
  | [] => true
  | (_, x) :: xs => isFrz x && isFrzK xs
def isFrzF : List (Str × D) → Bool
  | [] => true
  | (_, x) :: xs => isFrz x && isFrzF xs
end
mutual
theorem frz_of : ∀ {d : D}, isFrz d = true → frz d = d
  | .tup xs, h => congrArg D.tup (frzL_of h)
  | .lst o xs, h => by
    obtain ⟨h1, h2⟩ := Bool.and_eq_true_iff.mp (show (!o && isFrzL xs) = true from h)
    cases o
    · exact congrArg (D.lst false) (frzL_of h2)
    · cases h1
  | .dct o xs, h => by
    obtain ⟨h1, h2⟩ := Bool.and_eq_true_iff.mp (show (!o && isFrzK xs) = true from h)
    cases o
    · exact congrArg (D.dct false) (frzK_of h2)
    · cases h1
  | .obj o c xs, h => by
    obtain ⟨h1, h2⟩ := Bool.and_eq_true_iff.mp (show (!o && isFrzF xs) = true from h)
    cases o
    · exact congrArg (D.obj false c) (frzF_of h2)
    · cases h1
  | .exn c xs, h => congrArg (D.exn c) (frzF_of h)
  | .raw, h => by cases h
  | .non, _ => rfl | .bl _, _ => rfl | .int _, _ => rfl | .str _, _ => rfl | .fn _, _ => rfl | .hole _, _ => rfl | .junk, _ => rfl
  | .al v d, h => congrArg (D.al v) (frz_of (d := d) h)
  | .frd _ _, _ => rfl
theorem frzL_of : ∀ {xs : List D}, isFrzL xs = true → frzL xs = xs
  | [], _ => rfl
  | x :: xs, h => by
    obtain ⟨h1, h2⟩ := Bool.and_eq_true_iff.mp (show (isFrz x && isFrzL xs) = true from h)
    show frz x :: frzL xs = x :: xs
    rw [frz_of h1, frzL_of h2]
theorem frzK_of : ∀ {xs : List (Key × D)}, isFrzK xs = true → frzK xs = xs
  | [], _ => rfl
  | (k, x) :: xs, h => by
    obtain ⟨h1, h2⟩ := Bool.and_eq_true_iff.mp (show (isFrz x && isFrzK xs) = true from h)
    show (k, frz x) :: frzK xs = (k, x) :: xs
    rw [frz_of h1, frzK_of h2]
theorem frzF_of : ∀ {xs : List (Str × D)}, isFrzF xs = true → frzF xs = xs
  | [], _ => rfl
  | (k, x) :: xs, h => by
    obtain ⟨h1, h2⟩ := Bool.and_eq_true_iff.mp (show (isFrz x && isFrzF xs) = true from h)
    show (k, frz x) :: frzF xs = (k, x) :: xs
    rw [frz_of h1, frzF_of h2]
end
mutual
theorem isFrz_frz : ∀ d : D, isFrz (frz d) = true
  | .tup xs => isFrzL_frz xs
  | .lst _ xs => isFrzL_frz xs
  | .dct _ xs => isFrzK_frz xs
  | .obj _ c xs => isFrzF_frz xs
  | .exn c xs => isFrzF_frz xs
  | .raw => rfl
  | .non => rfl | .bl _ => rfl | .int _ => rfl | .str _ => rfl | .fn _ => rfl | .hole _ => rfl | .junk => rfl
  | .al _ d => isFrz_frz d
  | .frd _ _ => rfl
theorem isFrzL_frz : ∀ xs : List D, isFrzL (frzL xs) = true
  | [] => rfl
  | x :: xs => by
    show (isFrz (frz x) && isFrzL (frzL xs)) = true
    rw [isFrz_frz x, isFrzL_frz xs]; rfl
theorem isFrzK_frz : ∀ xs : List (Key × D), isFrzK (frzK xs) = true
  | [] => rfl
  | (k, x) :: xs => by
    show (isFrz (frz x) && isFrzK (frzK xs)) = true
    rw [isFrz_frz x, isFrzK_frz xs]; rfl
theorem isFrzF_frz : ∀ xs : List (Str × D), isFrzF (frzF xs) = true
  | [] => rfl
  | (k, x) :: xs => by
    show (isFrz (frz x) && isFrzF (frzF xs)) = true
    rw [isFrz_frz x, isFrzF_frz xs]; rfl
end
theorem isFrz_at {d : D} (h : isAt d = true) : isFrz d = true := by cases d <;> first | rfl | cases h

/-! ### what stands within -/
section
variable {g : Glb} {H H' : Hp} {Z : Addr → Prop}
theorem RepL.get : ∀ {vs : List V} {ds : List D} {A : List Addr} {i : Nat} {d : D}, RepL g H Z vs ds A → ds[i]? = some d → ∃ v B, vs[i]? = some v ∧ Rep g H Z v d B ∧ ∀ a ∈ B, a ∈ A
  | _, _, _, _, _, .nil, e => by simp at e
  | _, _, _, 0, _, .cons h r, e => by
    obtain rfl := Option.some.inj e
    exact ⟨_, _, rfl, h, fun a m => List.mem_append_left _ m⟩
  | _, _, _, i + 1, d, .cons h r, e => by
    obtain ⟨v, B, h1, h2, h3⟩ := RepL.get (i := i) (d := d) r (by simpa using e)
    exact ⟨v, B, by simpa using h1, h2, fun a m => List.mem_append_right _ (h3 a m)⟩
/-- v shows d, a part of what the names and F have -/
def Lk (g : Glb) (b : Bs) (H : Hp) (σ : Sg) (env : En) (F : Prs) (v : V) (d : D) : Prop :=
  ∃ ps A B, Sl σ env ps ∧ RepP g H (· ∈ A) (ps ++ F) A ∧ A.Nodup ∧ Wi g b H A ∧ (∀ a ∈ B, a ∈ A) ∧ Rep g H (· ∈ A) v d B
variable {b : Bs} {σ : Sg} {env : En} {F : Prs} {v : V} {d : D}
theorem Lk.sj (k : Lk g b H σ env F v d) : SJ g b H σ env F := let ⟨ps, A, _, h1, h2, h3, h4, _⟩ := k; ⟨ps, h1, A, h2, h3, h4⟩
theorem Lk.vw (k : Lk g b H σ env F v d) : Vw g H v d := let ⟨_, _, _, _, _, _, _, _, h⟩ := k; h.vw
theorem Lk.own (e : isFrz d = true) (k : Lk g b H σ env F v d) : SJ g b H σ env ((v, d) :: F) := by
  obtain ⟨ps, A, B, h1, h2, h3, h4, h5, h6⟩ := k
  obtain rfl := Rep.nil_of (frz_of e) h6
  obtain ⟨C, E, rfl, h7, h8⟩ := h2.split
  exact ⟨ps, h1, C ++ E, h7.app (RepP.cons (A := []) (p := (v, d)) h6 h8), h3, h4⟩
theorem Lk.add (h : ∀ H Z, Rep g H Z v d []) (j : SJ g b H σ env F) : Lk g b H σ env F v d := by
  obtain ⟨ps, s, A, r, n, w⟩ := j
  exact ⟨ps, A, [], s, r, n, w, fun a m => (nomatch m), h H _⟩
theorem SJ.lk {i : Nat} (e : env[i]? = some (some d)) (j : SJ g b H σ env F) : ∃ v, σ[i]? = some (some v) ∧ Lk g b H σ env F v d := by
  obtain ⟨ps, s, A, r, n, w⟩ := j
  obtain ⟨v, qs, h1, h2, h3⟩ := s.take e
  obtain ⟨B, p, r2⟩ := RepP.perm (h3.append_right F) r
  obtain ⟨C, E, rfl, h4, h5⟩ := RepP.inv (ps := qs ++ F) r2
  exact ⟨v, h1, ps, A, C, s, r, n, w, fun a m => p.mem_iff.mpr (List.mem_append_left _ m), h4⟩
theorem SJ.lkF (j : SJ g b H σ env ((v, d) :: F)) : Lk g b H σ env ((v, d) :: F) v d := by
  obtain ⟨ps, s, A, r, n, w⟩ := j
  obtain ⟨B, p, r2⟩ := RepP.perm (qs := (v, d) :: (ps ++ F)) List.perm_middle r
  obtain ⟨C, E, rfl, h4, h5⟩ := RepP.inv (ps := ps ++ F) r2
  exact ⟨ps, A, C, s, r, n, w, fun a m => p.mem_iff.mpr (List.mem_append_left _ m), h4⟩
theorem Lk.lst {o : Bool} {ds : List D} (k : Lk g b H σ env F v (.lst o ds)) : ∃ a vs, v = .ref a ∧ SqL g.K H a vs ∧ vs.length = ds.length ∧ ∀ (n : Nat) (d : D), ds[n]? = some d → ∃ u : V, vs[n]? = some u ∧ Lk g b H σ env F u d := by
  obtain ⟨ps, A, B, h1, h2, h3, h4, h5, h6⟩ := k
  cases h6 with
  | lstF h z r => exact ⟨_, _, rfl, .inl h, r.length, fun n d e => let ⟨u, C, a, c, m⟩ := r.get e; ⟨u, a, ps, A, C, h1, h2, h3, h4, fun a q => h5 a (m a q), c⟩⟩
  | lstK h r => exact ⟨_, _, rfl, h.sq, r.length, fun n d e => let ⟨u, C, a, c, m⟩ := r.get e; ⟨u, a, ps, A, C, h1, h2, h3, h4, fun a q => h5 a (m a q), c⟩⟩
  | lstO h r => exact ⟨_, _, rfl, .of h, r.length, fun n d e => let ⟨u, C, a, c, m⟩ := r.get e; ⟨u, a, ps, A, C, h1, h2, h3, h4, fun a q => h5 a (List.mem_cons_of_mem _ (m a q)), c⟩⟩
theorem Lk.tup {ds : List D} (k : Lk g b H σ env F v (.tup ds)) : ∃ a vs, v = .ref a ∧ SqT g.K H a vs ∧ vs.length = ds.length ∧ ∀ (n : Nat) (d : D), ds[n]? = some d → ∃ u : V, vs[n]? = some u ∧ Lk g b H σ env F u d := by
  obtain ⟨ps, A, B, h1, h2, h3, h4, h5, h6⟩ := k
  cases h6 with
  | tupH h z r => exact ⟨_, _, rfl, .inl h, r.length, fun n d e => let ⟨u, C, a, c, m⟩ := r.get e; ⟨u, a, ps, A, C, h1, h2, h3, h4, fun a q => h5 a (m a q), c⟩⟩
  | tupK h r => exact ⟨_, _, rfl, h.sq, r.length, fun n d e => let ⟨u, C, a, c, m⟩ := r.get e; ⟨u, a, ps, A, C, h1, h2, h3, h4, fun a q => h5 a (m a q), c⟩⟩
theorem lookup_get {α β γ : Type} [BEq α] : ∀ {es : List (α × β)} {ks : List (α × γ)} {x : α} {d : γ}, es.map (·.1) = ks.map (·.1) → ks.lookup x = some d → ∃ n : Nat, (ks.map (·.2))[n]? = some d ∧ (∀ v : β, (es.map (·.2))[n]? = some v → es.lookup x = some v)
  | [], [], _, _, _, h => by cases h
  | [], _ :: _, _, _, e, _ => by cases e
  | _ :: _, [], _, _, e, _ => by cases e
  | (k1, v) :: es, (k2, w) :: ks, x, d, e, h => by
    have e' : k1 = k2 ∧ es.map (·.1) = ks.map (·.1) := by simpa using e
    obtain ⟨rfl, e2⟩ := e'
    by_cases q : (x == k1) = true
    · have hd : some w = some d := by simpa [List.lookup, q] using h
      refine ⟨0, ?_, fun u hu => ?_⟩
      · simpa using hd
      · have hv : v = u := by simpa using hu
        simp [List.lookup, q, hv]
    · have q' : (x == k1) = false := by simpa using q
      have hd : ks.lookup x = some d := by simpa [List.lookup, q'] using h
      obtain ⟨n, a, c⟩ := lookup_get e2 hd
      refine ⟨n + 1, by simpa using a, fun u hu => ?_⟩
      have := c u (by simpa using hu)
      simpa [List.lookup, q'] using this
theorem Lk.obj {o : Bool} {c : Str} {gs : List (Str × D)} (k : Lk g b H σ env F v (.obj o c gs)) : ∃ a C dx fs, v = .ref a ∧ H a = some (.ins C dx fs) ∧ g.cls c = some C ∧ ∀ x d, gs.lookup x = some d → ∃ u, fs.lookup x = some u ∧ Lk g b H σ env F u d := by
  obtain ⟨ps, A, B, h1, h2, h3, h4, h5, h6⟩ := k
  cases h6 with
  | objF h z hc he r => exact ⟨_, _, _, _, rfl, h, hc, fun x d e => by
      obtain ⟨n, a, c⟩ := lookup_get he e
      obtain ⟨u, C, a', c', m⟩ := r.get a
      exact ⟨u, c u a', ps, A, C, h1, h2, h3, h4, fun a q => h5 a (m a q), c'⟩⟩
  | objO h hc he r => exact ⟨_, _, _, _, rfl, h, hc, fun x d e => by
      obtain ⟨n, a, c⟩ := lookup_get he e
      obtain ⟨u, C, a', c', m⟩ := r.get a
      exact ⟨u, c u a', ps, A, C, h1, h2, h3, h4, fun a q => h5 a (List.mem_cons_of_mem _ (m a q)), c'⟩⟩
theorem Lk.dct {o : Bool} {gs : List (Key × D)} (k : Lk g b H σ env F v (.dct o gs)) : ∃ a fs, v = .ref a ∧ Rd H a (.dK fs) ∧ fs.map (·.1) = gs.map (·.1) ∧ ∀ x d, gs.lookup x = some d → ∃ u, fs.lookup x = some u ∧ Lk g b H σ env F u d := by
  obtain ⟨ps, A, B, h1, h2, h3, h4, h5, h6⟩ := k
  cases h6 with
  | dctF h z he r => exact ⟨_, _, rfl, h, he, fun x d e => by
      obtain ⟨n, a, c⟩ := lookup_get he e
      obtain ⟨u, C, a', c', m⟩ := r.get a
      exact ⟨u, c u a', ps, A, C, h1, h2, h3, h4, fun a q => h5 a (m a q), c'⟩⟩
  | dctO h he r => exact ⟨_, _, rfl, .inl h, he, fun x d e => by
      obtain ⟨n, a, c⟩ := lookup_get he e
      obtain ⟨u, C, a', c', m⟩ := r.get a
      exact ⟨u, c u a', ps, A, C, h1, h2, h3, h4, fun a q => h5 a (List.mem_cons_of_mem _ (m a q)), c'⟩⟩
end

/-! ### readers: nothing is made, moved or changed -/
abbrev Rdr := En → Option D
def rdR (g : Glb) (n : Rdr) : TE := fun σ H Q => ∃ b env F d, SJ g b H σ env F ∧ n env = some d ∧ ∀ v, Lk g b H σ env F v d → Q v H
def SR (Γ : Cs) (sc : Scope) (e : Expr) (n : Rdr) : Prop := ∀ X, Good Γ sc X → PE X e (rdR Γ.g n)
section
variable {Γ : Cs} {sc : Scope} {p pa pb pc : Bool} {a c e : Expr} {na nb nc n : Rdr} {pos pos' : Pos}
def mR (n : Rdr) : M D := fun env => match n env with
  | some d => .ok d env
  | none => .bad
theorem SR.toV (h : SR Γ sc e n) : SV Γ sc true e (mR n) := fun X W G T => PE.imp (h X G) fun σ H Q ⟨b, env, F, j, q⟩ => by
  unfold mR at q
  cases hd : n env with
  | none => rw [hd] at q; exact q.elim
  | some d =>
    rw [hd] at q
    exact ⟨b, env, F, d, j, hd, fun v k => q v H k.sj k.vw fun _ => Ext.refl H⟩
/-- a copy of what is frozen -/
def mCp (n : Rdr) : M D := fun env => match n env with
  | some d => if isFrz d = true then .ok d env else .bad
  | none => .bad
theorem SR.toE (h : SR Γ sc e n) : SE Γ sc true e (mCp n) := fun X W G T => PE.imp (h X G) fun σ H Q ⟨b, env, F, j, q⟩ => by
  unfold mCp at q
  cases hd : n env with
  | none => rw [hd] at q; exact q.elim
  | some d =>
    rw [hd] at q
    dsimp only at q
    by_cases hf : isFrz d = true
    · rw [if_pos hf] at q
      exact ⟨b, env, F, d, j, hd, fun v k => q v H (k.own hf) fun _ => Ext.refl H⟩
    · rw [if_neg hf] at q
      exact q.elim
def rC (d : D) : Rdr := fun _ => some d
def rN (i : Nat) : Rdr := fun env => (env[i]?).join
theorem SR_c {t : V} {d : D} (he : ∀ X : Cx, PE X e (tC t)) (hr : ∀ H Z, Rep Γ.g H Z t d []) : SR Γ sc e (rC d) := fun X G =>
  PE.imp (he X) fun σ H Q ⟨b, env, F, d', j, hd, h⟩ => h t (by rw [← Option.some.inj hd]; exact Lk.add hr j)
theorem SR_int {i : Int} {j : Nat} : SR Γ sc (.Constant (.int i) j pos) (rC (.int i)) := SR_c (fun _ => pe_int) fun _ _ => .int i
theorem SR_str {s : Str} {j : Nat} : SR Γ sc (.Constant (.str s) j pos) (rC (.str s)) := SR_c (fun _ => pe_str) fun _ _ => .str s
theorem SR_bl {i : Bool} {j : Nat} : SR Γ sc (.Constant (.bool i) j pos) (rC (.bl i)) := SR_c (fun _ => pe_bl) fun _ _ => .bl i
theorem SR_non {j : Nat} : SR Γ sc (.Constant .none j pos) (rC .non) := SR_c (fun _ => pe_non) fun _ _ => .non
theorem rN_some {env : En} {i : Nat} {d : D} (h : rN i env = some d) : env[i]? = some (some d) := by
  unfold rN at h
  cases q : env[i]? with
  | none => rw [q] at h; cases h
  | some o => rw [q] at h; exact congrArg some h
theorem SR_name (i : Nat) {x : Str} (hN : Γ.N[i]? = some x) (hv : Vis sc x) (hd : (x == ("__debug__" : Str)) = false := by decide) (hcd : (x == ("__classdict__" : Str)) = false := by decide) : SR Γ sc (.Name x pos) (rN i) := fun X G =>
  PE.imp (pe_var (by rw [G.N]; exact hN) (by rw [G.sc]; exact hv) hd hcd) fun σ H Q ⟨b, env, F, d, j, hd, h⟩ => by
    obtain ⟨v, h1, k⟩ := j.lk (rN_some hd)
    exact ⟨v, h1, h v k⟩
/-! two operands -/
def rBin (f : D → D → Option D) (na nb : Rdr) : Rdr := fun env => match na env, nb env with
  | some x, some y => f x y
  | _, _ => none
theorem rBin_some {f : D → D → Option D} {env : En} {z : D} (h : rBin f na nb env = some z) : ∃ x y, na env = some x ∧ nb env = some y ∧ f x y = some z := by
  unfold rBin at h
  cases h1 : na env with
  | none => rw [h1] at h; cases h
  | some x =>
    cases h2 : nb env with
    | none => rw [h1, h2] at h; cases h
    | some y =>
      rw [h1, h2] at h
      exact ⟨x, y, rfl, rfl, h⟩
theorem rd_binR {g : Glb} {f : D → D → Option D} {r : R2} (hs : OpV g f r) {σ : Sg} {H : Hp} {Q : VK} (h : rdR g (rBin f na nb) σ H Q) : tOp r (rdR g na) (rdR g nb) σ H Q := by
  obtain ⟨b, env, F, z, j, hd, h⟩ := h
  obtain ⟨x, y, h1, h2, h3⟩ := rBin_some hd
  exact ⟨b, env, F, x, j, h1, fun v k1 => ⟨b, env, F, y, j, h2, fun u k2 => hs H v u x y z Q k1.vw k2.vw h3 fun w rw => h w (Lk.add rw j)⟩⟩
theorem SR_bin {op : Operator} {f : D → D → Option D} {r : R2} (ho : ∀ X, Good Γ sc X → OpR X (binaryOp op) r) (hs : OpV Γ.g f r) (ha : SR Γ sc a na) (hb : SR Γ sc c nb) : SR Γ sc (.BinOp a op c pos) (rBin f na nb) := fun X G =>
  PE.imp (pe_op (ho X G) (ha X G) (hb X G)) fun σ H Q => rd_binR hs
theorem SR_cmp {op : CmpOp} {f : D → D → Option D} {r : R2} (ho : ∀ X, Good Γ sc X → OpR X (compareOp op) r) (hs : OpV Γ.g f r) (ha : SR Γ sc a na) (hb : SR Γ sc c nb) (hm : behindInMarks op c = false) : SR Γ sc (.Compare a [op] [c] pos) (rBin f na nb) := fun X G =>
  PE.imp (pe_cmpR (ho X G) (ha X G) (hb X G) hm) fun σ H Q => rd_binR hs
/-! one operand -/
def rUn (f : D → Option D) (na : Rdr) : Rdr := fun env => (na env).bind f
def UnV (g : Glb) (f : D → Option D) (r : V → Hp → VK → Prop) : Prop := ∀ (H : Hp) (x : V) (dx dz : D) (Q : VK), Vw g H x dx → f dx = some dz → (∀ v, (∀ H Z, Rep g H Z v dz []) → Q v H) → r x H Q
theorem SR_un {op : UnaryOp} {f : D → Option D} {r : V → Hp → VK → Prop} (ho : ∀ X, Good Γ sc X → UnR X (unaryOp op) r) (hs : UnV Γ.g f r) (ha : SR Γ sc a na) : SR Γ sc (.UnaryOp op a pos) (rUn f na) := fun X G =>
  PE.imp (pe_un (ho X G) (ha X G)) fun σ H Q ⟨b, env, F, z, j, hd, h⟩ => by
    obtain ⟨x, h1, h2⟩ := Option.bind_eq_some_iff.mp hd
    exact ⟨b, env, F, x, j, h1, fun v k => hs H v x z Q k.vw h2 fun w rw => h w (Lk.add rw j)⟩
def negD : D → Option D
  | .int i => some (.int (-i))
  | _ => none
theorem un_negD {g : Glb} : UnV g negD (rU fun i => .int (-i)) := fun H x dx dz Q w h q => by
  cases w <;> first | cases h | skip
  exact ⟨_, rfl, q _ fun _ _ => .int _⟩
theorem SR_neg (ha : SR Γ sc a na) : SR Γ sc (.UnaryOp .USub a pos) (rUn negD na) := SR_un (fun _ _ => un_neg) un_negD ha
/-! items -/
def ixD : D → D → Option D
  | .lst _ xs, .int i => atI xs i
  | .tup xs, .int i => atI xs i
  | .str z, .int i => if z.length ≤ sizeLine then (atI z.cps.toList i).map fun c => .str ⟨#[c]⟩ else none
  | _, _ => none
theorem atI_get {α : Type} {xs : List α} {i : Int} {x : α} (h : atI xs i = some x) : ∃ n, ixN xs.length i = some n ∧ xs[n]? = some x := by
  unfold atI at h
  obtain ⟨n, h1, h2⟩ := Option.bind_eq_some_iff.mp h
  exact ⟨n, h1, h2⟩
theorem atI_of {α β : Type} {xs : List α} {ys : List β} {i : Int} {x : α} {n : Nat} (l : xs.length = ys.length) (h : ixN ys.length i = some n) (e : xs[n]? = some x) : atI xs i = some x := by
  unfold atI
  rw [l, h]
  exact e
theorem ix_lk {g : Glb} {b : Bs} {H : Hp} {σ : Sg} {env : En} {F : Prs} {v u : V} {d i z : D} {Q : VK} (k : Lk g b H σ env F v d) (ki : Vw g H u i) (e : ixD d i = some z) (h : ∀ w, Lk g b H σ env F w z → Q w H) : rIx g.K v u H Q := by
  cases ki <;> try (cases d <;> cases e)
  rename_i i
  cases d with
  | lst o xs =>
    obtain ⟨n, h1, h2⟩ := atI_get (show atI xs i = some z from e)
    obtain ⟨a, vs, rfl, hs, hl, hg⟩ := k.lst
    obtain ⟨w, h3, h4⟩ := hg n z h2
    exact .inl ⟨a, vs, i, w, rfl, rfl, hs, atI_of hl h1 h3, h w h4⟩
  | tup xs =>
    obtain ⟨n, h1, h2⟩ := atI_get (show atI xs i = some z from e)
    obtain ⟨a, vs, rfl, hs, hl, hg⟩ := k.tup
    obtain ⟨w, h3, h4⟩ := hg n z h2
    exact .inr (.inl ⟨a, vs, i, w, rfl, rfl, hs, atI_of hl h1 h3, h w h4⟩)
  | str s =>
    have e' : (if s.length ≤ sizeLine then (atI s.cps.toList i).map fun c => D.str ⟨#[c]⟩ else none) = some z := e
    by_cases q : s.length ≤ sizeLine
    · rw [if_pos q] at e'
      obtain ⟨c, h1, h2⟩ := Option.map_eq_some_iff.mp e'
      have kv := k.vw
      cases kv
      exact .inr (.inr ⟨s, i, c, rfl, rfl, q, h1, h _ (by rw [← h2]; exact Lk.add (fun _ _ => .str _) k.sj)⟩)
    · rw [if_neg q] at e'
      cases e'
  | _ => cases e
theorem SR_ix (ha : SR Γ sc a na) (hb : SR Γ sc c nb) (hs : PlainIx c) : SR Γ sc (.Subscript a c pos) (rBin ixD na nb) := fun X G =>
  PE.imp (pe_ix ix_seq (ha X G) (hb X G) hs) fun σ H Q ⟨b, env, F, z, j, hd, h⟩ => by
    obtain ⟨x, y, h1, h2, h3⟩ := rBin_some hd
    exact ⟨b, env, F, x, j, h1, fun v k1 => ⟨b, env, F, y, j, h2, fun u k2 => by rw [G.K]; exact ix_lk k1 k2.vw h3 h⟩⟩
/-! fields -/
def fldD (f : Str) : D → Option D
  | .obj _ _ fs => fs.lookup f
  | _ => none
/-- f is a field of the objects of the class c alone -/
structure FldC (g : Glb) (c f : Str) : Prop where
  of : ∀ C, g.cls c = some C → Cls g.K C ∧ NoAttr g.K C f
def rFld (c f : Str) (n : Rdr) : Rdr := fun env => match n env with
  | some (.obj _ c' fs) => if c' = c then fs.lookup f else none
  | _ => none
theorem SR_fld {x f : Str} (hf : FldC Γ.g x f) (ha : SR Γ sc a na) (hb : ∀ X : Cx, attributeBase a f X.env (eval a X.env) = eval a X.env) : SR Γ sc (.Attribute a f pos) (rFld x f na) := fun X G =>
  PE.imp (pe_fld (ha X G) (hb X)) fun σ H Q ⟨b, env, F, z, j, hd, h⟩ => by
    unfold rFld at hd
    split at hd
    · rename_i o c' fs e
      by_cases q : c' = x
      · rw [if_pos q] at hd
        subst q
        refine ⟨b, env, F, _, j, e, fun v k => ?_⟩
        obtain ⟨a, C, dx, us, rfl, h1, h2, h3⟩ := k.obj
        obtain ⟨u, h4, h5⟩ := h3 f z hd
        obtain ⟨c1, c2⟩ := hf.of C h2
        exact ⟨a, C, dx, us, u, rfl, h1, by rw [G.K]; exact c1, by rw [G.K]; exact c2, h4, h u h5⟩
      · rw [if_neg q] at hd
        cases hd
    · cases hd
end
end TL
end

-- text TL8
section
set_option Elab.async false
set_option linter.all false
set_option maxRecDepth 100000
set_option maxHeartbeats 4000000
namespace TL
open PySem PySem.Spec PyProof.Rows L2

/-! ### operations upon atoms -/
section
variable {g : Glb} {r r' : R2} {f : D → D → Option D}
theorem OpV.orL (h : OpV g f r) : OpV g f (fun x y H Q => r x y H Q ∨ r' x y H Q) := fun H x y dx dy dz Q a b c d => .inl (h H x y dx dy dz Q a b c d)
theorem OpV.orR (h : OpV g f r') : OpV g f (fun x y H Q => r x y H Q ∨ r' x y H Q) := fun H x y dx dy dz Q a b c d => .inr (h H x y dx dy dz Q a b c d)
/-- of two ints -/
def iiD (C : Int → Int → Bool) (f : Int → Int → D) : D → D → Option D
  | .int i, .int j => if C i j = true then some (f i j) else none
  | _, _ => none
theorem opV_ii {C : Int → Int → Prop} {c : Int → Int → Bool} {k : Int → Int → V} {f : Int → Int → D} (hc : ∀ i j, c i j = true → C i j) (hk : ∀ i j H Z, Rep g H Z (k i j) (f i j) []) : OpV g (iiD c f) (rI C k) := fun H x y dx dy dz Q wx wy e q => by
  cases wx <;> try (cases e; done)
  rename_i i
  cases wy <;> try (cases e; done)
  rename_i j
  have e' : (if c i j = true then some (f i j) else none) = some dz := e
  by_cases h : c i j = true
  · rw [if_pos h] at e'
    obtain rfl := Option.some.inj e'
    exact ⟨i, j, rfl, rfl, hc i j h, q _ (hk i j)⟩
  · rw [if_neg h] at e'
    cases e'
theorem rI0_of {k : Int → Int → V} {x y : V} {H : Hp} {Q : VK} (h : rI (fun _ _ => True) k x y H Q) : rI0 k x y H Q := by
  obtain ⟨i, j, a, b, _, q⟩ := h
  exact ⟨i, j, a, b, q⟩
theorem opV_ii0 {k : Int → Int → V} {f : Int → Int → D} (hk : ∀ i j H Z, Rep g H Z (k i j) (f i j) []) : OpV g (iiD (fun _ _ => true) f) (rI0 k) := fun H x y dx dy dz Q wx wy e q =>
  rI0_of (opV_ii (c := fun _ _ => true) (fun _ _ _ => trivial) hk H x y dx dy dz Q wx wy e q)
def subD : D → D → Option D := iiD (fun _ _ => true) fun i j => .int (i - j)
def mulD : D → D → Option D := iiD (fun i j => (decide (-(2 ^ 64) < i) && decide (i < 2 ^ 64)) || (decide (-(2 ^ 64) < j) && decide (j < 2 ^ 64))) fun i j => .int (i * j)
def divD : D → D → Option D := iiD (fun _ j => decide (0 < j) && decide (j < 1073741824)) fun i j => .int (i / j)
def modD : D → D → Option D := iiD (fun _ j => decide (0 < j)) fun i j => .int (i % j)
def powD : D → D → Option D := iiD (fun i j => decide (0 ≤ j) && decide (j ≤ 1000000) && decide (i.natAbs < 2 ^ 64)) fun i j => .int (i ^ j.toNat)
def ltD : D → D → Option D := iiD (fun _ _ => true) fun i j => .bl (decide (i < j))
def leD : D → D → Option D := iiD (fun _ _ => true) fun i j => .bl (decide (i ≤ j))
def gtD : D → D → Option D := iiD (fun _ _ => true) fun i j => .bl (decide (j < i))
def geD : D → D → Option D := iiD (fun _ _ => true) fun i j => .bl (decide (j ≤ i))
def addI : D → D → Option D := iiD (fun _ _ => true) fun i j => .int (i + j)
def addS : D → D → Option D
  | .str a, .str b => if a.length + b.length ≤ sizeLine then some (.str (a ++ b)) else none
  | _, _ => none
/-- ints, texts -/
def addA (x y : D) : Option D := match x with
  | .str _ => addS x y
  | _ => addI x y
theorem opV_sub : OpV g subD (rI0 fun i j => .int (i - j)) := opV_ii0 fun _ _ _ _ => .int _
theorem opV_mul : OpV g mulD (rI CMul fun i j => .int (i * j)) := opV_ii (fun i j h => by
  rcases Bool.or_eq_true_iff.mp h with h | h
  · obtain ⟨a, b⟩ := Bool.and_eq_true_iff.mp h
    exact .inl ⟨of_decide_eq_true a, of_decide_eq_true b⟩
  · obtain ⟨a, b⟩ := Bool.and_eq_true_iff.mp h
    exact .inr ⟨of_decide_eq_true a, of_decide_eq_true b⟩) fun _ _ _ _ => .int _
theorem opV_div : OpV g divD (rI CDiv fun i j => .int (i / j)) := opV_ii (fun i j h => by
  obtain ⟨a, b⟩ := Bool.and_eq_true_iff.mp h
  exact ⟨of_decide_eq_true a, of_decide_eq_true b⟩) fun _ _ _ _ => .int _
theorem opV_mod : OpV g modD (rI (fun _ j => 0 < j) fun i j => .int (i % j)) := opV_ii (fun i j h => of_decide_eq_true h) fun _ _ _ _ => .int _
theorem opV_pow : OpV g powD (rI CPow fun i j => .int (i ^ j.toNat)) := opV_ii (fun i j h => by
  obtain ⟨a, b⟩ := Bool.and_eq_true_iff.mp h
  obtain ⟨a, c⟩ := Bool.and_eq_true_iff.mp a
  exact ⟨of_decide_eq_true a, of_decide_eq_true c, of_decide_eq_true b⟩) fun _ _ _ _ => .int _
theorem opV_lt : OpV g ltD (rI0 fun i j => .bl (decide (i < j))) := opV_ii0 fun _ _ _ _ => .bl _
theorem opV_le : OpV g leD (rI0 fun i j => .bl (decide (i ≤ j))) := opV_ii0 fun _ _ _ _ => .bl _
theorem opV_gt : OpV g gtD (rI0 fun i j => .bl (decide (j < i))) := opV_ii0 fun _ _ _ _ => .bl _
theorem opV_ge : OpV g geD (rI0 fun i j => .bl (decide (j ≤ i))) := opV_ii0 fun _ _ _ _ => .bl _
abbrev rAddA : R2 := fun x y H Q => rI0 (fun i j => .int (i + j)) x y H Q ∨ (fun x y H Q => ∃ i j, x = .str i ∧ y = .str j ∧ i.length + j.length ≤ sizeLine ∧ Q (.str (i ++ j)) H) x y H Q
theorem addS_op : OpV g addS (fun x y H Q => ∃ i j, x = .str i ∧ y = .str j ∧ i.length + j.length ≤ sizeLine ∧ Q (.str (i ++ j)) H) := fun H x y dx dy dz Q wx wy e q => by
  cases wx <;> try (cases e; done)
  rename_i i
  cases wy <;> try (cases e; done)
  rename_i j
  have e' : (if i.length + j.length ≤ sizeLine then some (D.str (i ++ j)) else none) = some dz := e
  by_cases h : i.length + j.length ≤ sizeLine
  · rw [if_pos h] at e'
    obtain rfl := Option.some.inj e'
    exact ⟨i, j, rfl, rfl, h, q _ fun _ _ => .str _⟩
  · rw [if_neg h] at e'
    cases e'
theorem opV_addA : OpV g addA rAddA := fun H x y dx dy dz Q wx wy e q => by
  cases dx with
  | str a => exact .inr (addS_op H x y (.str a) dy dz Q wx wy e q)
  | int a => exact .inl (opV_ii0 (fun _ _ _ _ => .int _) H x y (.int a) dy dz Q wx wy e q)
  | _ => cases e
theorem op_addA {X : Cx} : OpR X (binaryOp .Add) rAddA := op_add.or op_add_str

/-! ### is None -/
def isRefD : D → Bool
  | .tup _ => true | .lst _ _ => true | .dct _ _ => true | .obj _ _ _ => true
  | _ => false
def noneD (x y : D) : Option Bool := match x, y with
  | .non, .non => some true
  | .int _, .non => some false | .str _, .non => some false | .bl _, .non => some false
  | .tup _, .non => some false | .lst _ _, .non => some false | .dct _ _, .non => some false | .obj _ _ _, .non => some false
  | _, _ => none
def isND (x y : D) : Option D := (noneD x y).map .bl
def notND (x y : D) : Option D := (noneD x y).map fun t => .bl !t
theorem noneD_of {H : Hp} {x y : V} {dx dy : D} {t : Bool} (wx : Vw g H x dx) (wy : Vw g H y dy) (e : noneD dx dy = some t) : y = .non ∧ decide (x = .non) = t := by
  cases wy <;> try (cases wx <;> cases e; done)
  cases wx <;> first | (cases e; done) | (have e' := Option.some.inj e; subst e'; exact ⟨rfl, rfl⟩) | skip
  all_goals (have e' := Option.some.inj e; subst e'; exact ⟨rfl, decide_eq_false (fun h => nomatch h)⟩)
theorem opV_isN : OpV g isND (fun x y H Q => y = .non ∧ Q (.bl (decide (x = .non))) H) := fun H x y dx dy dz Q wx wy e q => by
  obtain ⟨t, h1, h2⟩ := Option.map_eq_some_iff.mp e
  obtain ⟨h3, h4⟩ := noneD_of wx wy h1
  exact ⟨h3, q _ fun _ _ => by rw [h4, ← h2]; exact .bl _⟩
theorem opV_notN : OpV g notND (fun x y H Q => y = .non ∧ Q (.bl (!decide (x = .non))) H) := fun H x y dx dy dz Q wx wy e q => by
  obtain ⟨t, h1, h2⟩ := Option.map_eq_some_iff.mp e
  obtain ⟨h3, h4⟩ := noneD_of wx wy h1
  exact ⟨h3, q _ fun _ _ => by rw [h4, ← h2]; exact .bl _⟩

/-! ### equal -/
mutual
def toPy : D → Option PyData
  | .non => some .none
  | .bl b => some (.bool b)
  | .int i => some (.int i)
  | .str s => some (.str s)
  | .lst _ xs => (toPyL xs).map .list
  | .tup xs => (toPyL xs).map .tuple
  | .dct _ _ => none | .obj _ _ _ => none | .exn _ _ => none | .fn _ => none | .hole _ => none | .raw => none | .junk => none | .al _ _ => none | .frd _ _ => none
def toPyL : List D → Option (List PyData)
  | [] => some []
  | x :: xs => match toPy x, toPyL xs with
    | some p, some ps => some (p :: ps)
    | _, _ => none
end
mutual
theorem dp_of {H : Hp} : ∀ {d : D} {v : V} {p : PyData}, Vw g H v d → toPy d = some p → Dp g.K H v p
  | .non, _, _, w, e => by cases w; cases Option.some.inj e; exact .non
  | .bl _, _, _, w, e => by cases w; cases Option.some.inj e; exact .bl _
  | .int _, _, _, w, e => by cases w; cases Option.some.inj e; exact .int _
  | .str _, _, _, w, e => by cases w; cases Option.some.inj e; exact .str _
  | .lst o xs, _, _, w, e => by
    cases w with
    | lst h r =>
      obtain ⟨ps, h1, h2⟩ := Option.map_eq_some_iff.mp (show (toPyL xs).map PyData.list = _ from e)
      rw [← h2]
      exact .lst h (dp_ofL r h1)
  | .tup xs, _, _, w, e => by
    cases w with
    | tup h r =>
      obtain ⟨ps, h1, h2⟩ := Option.map_eq_some_iff.mp (show (toPyL xs).map PyData.tuple = _ from e)
      rw [← h2]
      exact .tup h (dp_ofL r h1)
  | .dct _ _, _, _, _, e => nomatch (show (none : Option PyData) = some _ from e)
  | .obj _ _ _, _, _, _, e => nomatch (show (none : Option PyData) = some _ from e)
  | .exn _ _, _, _, _, e => nomatch (show (none : Option PyData) = some _ from e)
  | .fn _, _, _, _, e => nomatch (show (none : Option PyData) = some _ from e)
  | .hole _, _, _, _, e => nomatch (show (none : Option PyData) = some _ from e)
  | .raw, _, _, _, e => nomatch (show (none : Option PyData) = some _ from e)
  | .junk, _, _, _, e => nomatch (show (none : Option PyData) = some _ from e)
  | .al _ _, _, _, _, e => nomatch (show (none : Option PyData) = some _ from e)
  | .frd _ _, _, _, _, e => nomatch (show (none : Option PyData) = some _ from e)
theorem dp_ofL {H : Hp} : ∀ {ds : List D} {vs : List V} {ps : List PyData}, VwL g H vs ds → toPyL ds = some ps → DpAll g.K H vs ps
  | [], _, _, w, e => by cases w; cases Option.some.inj e; exact .nil
  | d :: ds, _, _, w, e => by
    cases w with
    | cons h r =>
      have e' : (match toPy d, toPyL ds with | some p, some ps => some (p :: ps) | _, _ => none) = some _ := e
      cases h1 : toPy d with
      | none => rw [h1] at e'; cases e'
      | some p =>
        cases h2 : toPyL ds with
        | none => rw [h1, h2] at e'; cases e'
        | some ps =>
          rw [h1, h2] at e'
          cases Option.some.inj e'
          exact .cons (dp_of h h1) (dp_ofL r h2)
end
/-- nested data compared -/
def eqN (x y : D) : Option Bool := match toPy x, toPy y with
  | some p, some q => if (SeqAt.shaped p && SeqAt.shaped q) = true then some (PyData.eqv p q) else none
  | _, _ => none
def eqB (x y : D) : Option Bool := if (isAt x && isAt y) = true then if scal (vOf x) (vOf y) = true then some (decide (vOf x = vOf y)) else none else eqN x y
def eqD (x y : D) : Option D := (eqB x y).map .bl
def neD (x y : D) : Option D := (eqB x y).map fun t => .bl !t
abbrev rEqB (K : PySem.W.Frag) : R2 := fun x y H Q => rEq x y H Q ∨ rEqD K x y H Q
abbrev rNeB (K : PySem.W.Frag) : R2 := fun x y H Q => rNe x y H Q ∨ rNeD K x y H Q
theorem op_eqB {X : Cx} (hu : X.A.units + 64 < cLine) : OpR X (compareOp .Eq) (rEqB X.K) := op_eq.or (op_eqD hu)
theorem op_neB {X : Cx} (hu : X.A.units + 64 < cLine) : OpR X (compareOp .NotEq) (rNeB X.K) := op_ne.or (op_neD hu)
theorem eqN_of {H : Hp} {x y : V} {dx dy : D} {t : Bool} (wx : Vw g H x dx) (wy : Vw g H y dy) (e : eqN dx dy = some t) : ∃ d e, Dp g.K H x d ∧ Dp g.K H y e ∧ SeqAt.shaped d = true ∧ SeqAt.shaped e = true ∧ PyData.eqv d e = t := by
  unfold eqN at e
  cases h1 : toPy dx with
  | none => rw [h1] at e; cases e
  | some p =>
    cases h2 : toPy dy with
    | none => rw [h1, h2] at e; cases e
    | some q =>
      rw [h1, h2] at e
      dsimp only at e
      by_cases h : (SeqAt.shaped p && SeqAt.shaped q) = true
      · rw [if_pos h] at e
        obtain ⟨h3, h4⟩ := Bool.and_eq_true_iff.mp h
        exact ⟨p, q, dp_of wx h1, dp_of wy h2, h3, h4, Option.some.inj e⟩
      · rw [if_neg h] at e; cases e
theorem eqB_of {H : Hp} {x y : V} {dx dy : D} {t : Bool} (wx : Vw g H x dx) (wy : Vw g H y dy) (e : eqB dx dy = some t) : (scal x y = true ∧ decide (x = y) = t) ∨ eqN dx dy = some t := by
  unfold eqB at e
  by_cases h : (isAt dx && isAt dy) = true
  · rw [if_pos h] at e
    obtain ⟨h1, h2⟩ := Bool.and_eq_true_iff.mp h
    rw [vw_at h1 wx, vw_at h2 wy]
    by_cases h3 : scal (vOf dx) (vOf dy) = true
    · rw [if_pos h3] at e
      exact .inl ⟨h3, Option.some.inj e⟩
    · rw [if_neg h3] at e; cases e
  · rw [if_neg h] at e
    exact .inr e
theorem opV_eq : OpV g eqD (rEqB g.K) := fun H x y dx dy dz Q wx wy e q => by
  obtain ⟨t, h1, h2⟩ := Option.map_eq_some_iff.mp e
  rcases eqB_of wx wy h1 with ⟨h3, h4⟩ | h3
  · exact .inl ⟨h3, q _ fun _ _ => by rw [h4, ← h2]; exact .bl _⟩
  · obtain ⟨p, r, a, b, c, d, h⟩ := eqN_of wx wy h3
    exact .inr ⟨p, r, a, b, c, d, q _ fun _ _ => by rw [h, ← h2]; exact .bl _⟩
theorem opV_ne : OpV g neD (rNeB g.K) := fun H x y dx dy dz Q wx wy e q => by
  obtain ⟨t, h1, h2⟩ := Option.map_eq_some_iff.mp e
  rcases eqB_of wx wy h1 with ⟨h3, h4⟩ | h3
  · exact .inl ⟨h3, q _ fun _ _ => by rw [h4, ← h2]; exact .bl _⟩
  · obtain ⟨p, r, a, b, c, d, h⟩ := eqN_of wx wy h3
    exact .inr ⟨p, r, a, b, c, d, q _ fun _ _ => by rw [h, ← h2]; exact .bl _⟩

/-! ### in -/
def keyOf : D → Option Key
  | .int i => some (.inl i)
  | .str s => some (.inr s)
  | _ => none
theorem keyOf_v {H : Hp} {x : V} {d : D} {k : Key} (w : Vw g H x d) (e : keyOf d = some k) : x = kV k := by
  cases w <;> first | (cases e; done) | (obtain rfl := Option.some.inj e; rfl)
def eqvD (x y : D) : Bool := eqV (vOf x) (vOf y)
/-- one of the flat items -/
def inL (x : D) (xs : List D) : Option Bool := if (isAt x && xs.all isAt) = true then some (xs.any fun y => eqV (vOf y) (vOf x)) else none
def inB (x y : D) : Option Bool := match y with
  | .lst _ xs => inL x xs
  | .tup xs => inL x xs
  | .dct _ kvs => (keyOf x).map fun k => (kvs.lookup k).isSome
  | .str z => match x with
    | .str s => if s.cps.size = 1 then some (decide (s.cps.toList.headD 0 ∈ z.cps.toList)) else none
    | _ => none
  | _ => none
def inD (x y : D) : Option D := (inB x y).map .bl
def ninD (x y : D) : Option D := (inB x y).map fun t => .bl !t
theorem vw_all {H : Hp} : ∀ {vs : List V} {ds : List D}, VwL g H vs ds → ds.all isAt = true → vs = ds.map vOf
  | _, _, .nil, _ => rfl
  | _, _, .cons w r, h => by
    obtain ⟨h1, h2⟩ := Bool.and_eq_true_iff.mp (show (isAt _ && List.all _ isAt) = true from h)
    rw [vw_at h1 w, vw_all r h2]
    rfl
theorem flat_at {d : D} (h : isAt d = true) : flatV (vOf d) = true := by cases d <;> first | rfl | cases h
theorem inL_of {H : Hp} {x : V} {vs : List V} {dx : D} {ds : List D} {t : Bool} (wx : Vw g H x dx) (r : VwL g H vs ds) (e : inL dx ds = some t) : flatV x = true ∧ vs.all flatV = true ∧ inV x vs = t := by
  unfold inL at e
  by_cases h : (isAt dx && ds.all isAt) = true
  · rw [if_pos h] at e
    obtain ⟨h1, h2⟩ := Bool.and_eq_true_iff.mp h
    have ev := vw_all r h2
    rw [vw_at h1 wx, ev]
    refine ⟨flat_at h1, ?_, ?_⟩
    · rw [List.all_map]
      exact List.all_eq_true.mpr fun d m => flat_at (List.all_eq_true.mp h2 d m)
    · rw [← Option.some.inj e]
      unfold inV
      rw [List.any_map]
      rfl
  · rw [if_neg h] at e; cases e
abbrev rInB (X : Cx) : R2 := fun x y H Q => (rIn X.K false x y H Q ∨ (fun x y H Q => ∃ a o, y = .ref a ∧ DGet H a x o ∧ Q (.bl o.isSome) H) x y H Q) ∨ (fun x y H Q => ∃ (c : Nat) (z : Str), x = .str ⟨#[c]⟩ ∧ y = .str z ∧ Q (.bl (decide (c ∈ z.cps.toList))) H) x y H Q
abbrev rNinB (X : Cx) : R2 := fun x y H Q => (rIn X.K true x y H Q ∨ (fun x y H Q => ∃ a o, y = .ref a ∧ DGet H a x o ∧ Q (.bl (!o.isSome)) H) x y H Q) ∨ (fun x y H Q => ∃ i j, x = .str i ∧ y = .str j ∧ Q (.bl (!(!(Builtin.Str.occurrences j i 0 j.length 1).isEmpty))) H) x y H Q
theorem op_inDct {X : Cx} (hu : X.A.units + 1 < cLine) : OpR X (compareOp .In) (fun x y H Q => ∃ a o, y = .ref a ∧ DGet H a x o ∧ Q (.bl o.isSome) H) := by
  intro pins s σ H x y v u Q I rx ry h
  obtain ⟨a, o, rfl, hg, q⟩ := h
  cases ry
  exact d_in hu I hg rx fun s' I' => ⟨.bl o.isSome, H, I', rfl, q⟩
theorem op_ninDct {X : Cx} (hu : X.A.units + 1 < cLine) : OpR X (compareOp .NotIn) (fun x y H Q => ∃ a o, y = .ref a ∧ DGet H a x o ∧ Q (.bl (!o.isSome)) H) := by
  intro pins s σ H x y v u Q I rx ry h
  obtain ⟨a, o, rfl, hg, q⟩ := h
  cases ry
  exact d_notIn hu I hg rx fun s' I' => ⟨.bl (!o.isSome), H, I', rfl, q⟩
theorem op_inB {X : Cx} (hu : X.A.units + 1 < cLine) : OpR X (compareOp .In) (rInB X) := (op_in_seq.or (op_inDct hu)).or op_in_sign
theorem look_isSome {es : List (Key × V)} {kvs : List (Key × D)} {k : Key} (h : es.map (·.1) = kvs.map (·.1)) : (es.lookup k).isSome = (kvs.lookup k).isSome := by
  induction es generalizing kvs with
  | nil => cases kvs with
    | nil => rfl
    | cons a b => cases h
  | cons a es ih => cases kvs with
    | nil => cases h
    | cons c kvs =>
      obtain ⟨k1, v1⟩ := a
      obtain ⟨k2, v2⟩ := c
      obtain ⟨h1, h2⟩ := List.cons.inj h
      have h1' : k1 = k2 := h1
      subst h1'
      simp only [List.lookup]
      cases (k == k1)
      · exact ih h2
      · rfl
end
end TL
end

-- text TL9
section
set_option Elab.async false
set_option linter.all false
set_option maxRecDepth 100000
set_option maxHeartbeats 4000000
namespace TL
open PySem PySem.Spec PyProof.Rows L2

theorem keyBeq (a b : Key) : (a == b) = decide (a = b) := by
  cases a <;> cases b <;> simp [BEq.beq, instBEqOfDecidableEq, Sum.instBEq] <;> rfl
theorem valV_lookup : ∀ (es : List (Key × V)) (k : Key), valV es k = es.lookup k
  | [], _ => rfl
  | (k1, v) :: es, k => by
    have ih := valV_lookup es k
    unfold valV at ih ⊢
    simp only [List.find?, List.lookup, keyBeq]
    by_cases h : k1 = k
    · subst h
      simp
    · have h' : ¬ k = k1 := fun e => h e.symm
      simp only [decide_eq_false h, decide_eq_false h']
      exact ih
section
variable {g : Glb}
abbrev rSign (k : Bool → Bool) : R2 := fun x y H Q => ∃ (c : Nat) (z : Str), x = .str ⟨#[c]⟩ ∧ y = .str z ∧ Q (.bl (k (decide (c ∈ z.cps.toList)))) H
theorem sign1 {s : Str} (h : s.cps.size = 1) : s = ⟨#[s.cps.toList.headD 0]⟩ := by
  obtain ⟨⟨l⟩⟩ := s
  match l, h with
  | [c], _ => rfl
theorem inB_of {X : Cx} {H : Hp} {x y : V} {dx dy : D} {t : Bool} {Q : VK} {neg : Bool} (hK : X.K = g.K) (wx : Vw g H x dx) (wy : Vw g H y dy) (e : inB dx dy = some t) (q : Q (.bl (if neg then !t else t)) H) :
    (rIn X.K neg x y H Q ∨ (∃ a o, y = .ref a ∧ DGet H a x o ∧ Q (.bl (if neg then !o.isSome else o.isSome)) H)) ∨ (∃ (c : Nat) (z : Str), x = .str ⟨#[c]⟩ ∧ y = .str z ∧ Q (.bl (if neg then !decide (c ∈ z.cps.toList) else decide (c ∈ z.cps.toList))) H) := by
  cases wy <;> try (cases e; done)
  · rename_i z
    cases wx <;> try (cases e; done)
    rename_i s
    have e' : (if s.cps.size = 1 then some (decide (s.cps.toList.headD 0 ∈ z.cps.toList)) else none) = some t := e
    by_cases h : s.cps.size = 1
    · rw [if_pos h] at e'
      refine .inr ⟨s.cps.toList.headD 0, z, by rw [← sign1 h], rfl, ?_⟩
      rw [Option.some.inj e']
      exact q
    · rw [if_neg h] at e'; cases e'
  · rename_i a vs ds hs r
    obtain ⟨h1, h2, h3⟩ := inL_of wx r (show inL dx ds = some t from e)
    exact .inl (.inl ⟨a, vs, rfl, .inr (by rw [hK]; exact hs), h1, h2, by rw [h3]; exact q⟩)
  · rename_i a vs ds hs r
    obtain ⟨h1, h2, h3⟩ := inL_of wx r (show inL dx ds = some t from e)
    exact .inl (.inl ⟨a, vs, rfl, .inl (by rw [hK]; exact hs), h1, h2, by rw [h3]; exact q⟩)
  · rename_i a es kvs hd he r
    obtain ⟨k, h1, h2⟩ := Option.map_eq_some_iff.mp (show (keyOf dx).map (fun k => (kvs.lookup k).isSome) = some t from e)
    refine .inl (.inr ⟨a, valV es k, rfl, .inl ⟨es, k, hd, keyOf_v wx h1, rfl⟩, ?_⟩)
    rw [valV_lookup, look_isSome he, h2]
    exact q
theorem opV_in {Γ : Cs} {sc : Scope} : ∀ X, Good Γ sc X → OpV Γ.g inD (rInB X) := fun X G H x y dx dy dz Q wx wy e q => by
  obtain ⟨t, h1, h2⟩ := Option.map_eq_some_iff.mp e
  exact inB_of (neg := false) (Q := Q) G.K wx wy h1 (q _ fun _ _ => by rw [← h2]; exact .bl _)
abbrev rNin (X : Cx) : R2 := fun x y H Q => (rIn X.K true x y H Q ∨ (fun x y H Q => ∃ a o, y = .ref a ∧ DGet H a x o ∧ Q (.bl (!o.isSome)) H) x y H Q) ∨ (fun x y H Q => ∃ (c : Nat) (z : Str), x = .str ⟨#[c]⟩ ∧ y = .str z ∧ Q (.bl (!decide (c ∈ z.cps.toList))) H) x y H Q
theorem op_nin {X : Cx} (hu : X.A.units + 1 < cLine) : OpR X (compareOp .NotIn) (rNin X) := (op_notIn_seq.or (op_ninDct hu)).or op_notIn_sign
theorem opV_nin {Γ : Cs} {sc : Scope} : ∀ X, Good Γ sc X → OpV Γ.g ninD (rNin X) := fun X G H x y dx dy dz Q wx wy e q => by
  obtain ⟨t, h1, h2⟩ := Option.map_eq_some_iff.mp e
  exact inB_of (neg := true) (Q := Q) G.K wx wy h1 (q _ fun _ _ => by rw [← h2]; exact .bl _)
end

/-! ### which give a truth -/
theorem bls_ii {c : Int → Int → Bool} {k : Int → Int → Bool} : Bls (iiD c fun i j => .bl (k i j)) := fun x y z h => by
  unfold iiD at h
  split at h
  · rename_i i j
    by_cases q : c i j = true
    · rw [if_pos q] at h; exact ⟨_, (Option.some.inj h).symm⟩
    · rw [if_neg q] at h; cases h
  · cases h
theorem bls_map {f : D → D → Option Bool} {k : Bool → Bool} : Bls (fun x y => (f x y).map fun t => .bl (k t)) := fun x y z h => by
  obtain ⟨t, _, h2⟩ := Option.map_eq_some_iff.mp h
  exact ⟨_, h2.symm⟩
theorem bls_lt : Bls ltD := bls_ii
theorem bls_le : Bls leD := bls_ii
theorem bls_gt : Bls gtD := bls_ii
theorem bls_ge : Bls geD := bls_ii
theorem bls_eq : Bls eqD := bls_map (k := fun t => t)
theorem bls_ne : Bls neD := bls_map
theorem bls_in : Bls inD := bls_map (k := fun t => t)
theorem bls_nin : Bls ninD := bls_map
theorem bls_isN : Bls isND := bls_map (k := fun t => t)
theorem bls_notN : Bls notND := bls_map

/-! ### the operators by name: how one holds in a context, its table -/
/-- an operation of two operands: in the context, on what is looked at -/
structure Op2 (Γ : Cs) (sc : Scope) (o : Value → Value → Sem Value) (f : D → D → Option D) : Prop where
  of : ∀ X, Good Γ sc X → ∃ r, OpR X o r ∧ OpV Γ.g f r
section
variable {Γ : Cs} {sc : Scope}
theorem o_addA : Op2 Γ sc (binaryOp .Add) addA := ⟨fun X G => ⟨_, op_addA, opV_addA⟩⟩
theorem o_sub : Op2 Γ sc (binaryOp .Sub) subD := ⟨fun X G => ⟨_, op_sub, opV_sub⟩⟩
theorem o_mul : Op2 Γ sc (binaryOp .Mult) mulD := ⟨fun X G => ⟨_, op_mul, opV_mul⟩⟩
theorem o_div : Op2 Γ sc (binaryOp .FloorDiv) divD := ⟨fun X G => ⟨_, op_fdiv, opV_div⟩⟩
theorem o_mod : Op2 Γ sc (binaryOp .Mod) modD := ⟨fun X G => ⟨_, op_mod, opV_mod⟩⟩
theorem o_pow : Op2 Γ sc (binaryOp .Pow) powD := ⟨fun X G => ⟨_, op_pow, opV_pow⟩⟩
theorem o_lt : Op2 Γ sc (compareOp .Lt) ltD := ⟨fun X G => ⟨_, op_lt, opV_lt⟩⟩
theorem o_le : Op2 Γ sc (compareOp .LtE) leD := ⟨fun X G => ⟨_, op_le, opV_le⟩⟩
theorem o_gt : Op2 Γ sc (compareOp .Gt) gtD := ⟨fun X G => ⟨_, op_gt, opV_gt⟩⟩
theorem o_ge : Op2 Γ sc (compareOp .GtE) geD := ⟨fun X G => ⟨_, op_ge, opV_ge⟩⟩
theorem o_eq : Op2 Γ sc (compareOp .Eq) eqD := ⟨fun X G => ⟨_, op_eqB G.hu, by rw [G.K]; exact opV_eq⟩⟩
theorem o_ne : Op2 Γ sc (compareOp .NotEq) neD := ⟨fun X G => ⟨_, op_neB G.hu, by rw [G.K]; exact opV_ne⟩⟩
theorem o_in : Op2 Γ sc (compareOp .In) inD := ⟨fun X G => ⟨_, op_inB G.hu1, opV_in X G⟩⟩
theorem o_nin : Op2 Γ sc (compareOp .NotIn) ninD := ⟨fun X G => ⟨_, op_nin G.hu1, opV_nin X G⟩⟩
theorem o_isN : Op2 Γ sc (compareOp .Is) isND := ⟨fun X G => ⟨_, op_isN, opV_isN⟩⟩
theorem o_notN : Op2 Γ sc (compareOp .IsNot) notND := ⟨fun X G => ⟨_, op_notN, opV_notN⟩⟩
variable {p pa pb : Bool} {a c : Expr} {ma mb : M D} {na nb : Rdr} {f : D → D → Option D} {op : Operator} {co : CmpOp} {pos : Pos}
theorem Rbin (o : Op2 Γ sc (binaryOp op) f) (ha : SR Γ sc a na) (hb : SR Γ sc c nb) : SR Γ sc (.BinOp a op c pos) (rBin f na nb) := fun X G => by
  obtain ⟨r, h1, h2⟩ := o.of X G
  exact PE.imp (pe_op h1 (ha X G) (hb X G)) fun σ H Q => rd_binR h2
theorem Rcmp (o : Op2 Γ sc (compareOp co) f) (ha : SR Γ sc a na) (hb : SR Γ sc c nb) (hm : behindInMarks co c = false) : SR Γ sc (.Compare a [co] [c] pos) (rBin f na nb) := fun X G => by
  obtain ⟨r, h1, h2⟩ := o.of X G
  exact PE.imp (pe_cmpR h1 (ha X G) (hb X G) hm) fun σ H Q => rd_binR h2
theorem Vbin (o : Op2 Γ sc (binaryOp op) f) (ha : SV Γ sc pa a ma) (hb : SV Γ sc true c mb) : SE Γ sc pa (.BinOp a op c pos) (mBin f ma mb) := fun X W G T => by
  obtain ⟨r, h1, h2⟩ := o.of X G
  exact PE.imp (pe_op h1 (ha X W G T) (hb X W G T)) fun σ H Q => rd_binV h2
theorem Ebin (o : Op2 Γ sc (binaryOp op) f) (ha : SE Γ sc pa a ma) (hb : SE Γ sc pb c mb) : SE Γ sc (pa && pb) (.BinOp a op c pos) (mBin f ma mb) := fun X W G T => by
  obtain ⟨r, h1, h2⟩ := o.of X G
  exact PE.imp (pe_op h1 (ha X W G T) (hb X W G T)) fun σ H Q => rd_binE h2
theorem Vcmp (o : Op2 Γ sc (compareOp co) f) (ha : SV Γ sc pa a ma) (hb : SV Γ sc true c mb) (hm : behindInMarks co c = false) : SE Γ sc pa (.Compare a [co] [c] pos) (mBin f ma mb) := fun X W G T => by
  obtain ⟨r, h1, h2⟩ := o.of X G
  exact PE.imp (pe_cmpR h1 (ha X W G T) (hb X W G T) hm) fun σ H Q => rd_binV h2
theorem Ecmp (o : Op2 Γ sc (compareOp co) f) (ha : SE Γ sc pa a ma) (hb : SE Γ sc pb c mb) (hm : behindInMarks co c = false) : SE Γ sc (pa && pb) (.Compare a [co] [c] pos) (mBin f ma mb) := fun X W G T => by
  obtain ⟨r, h1, h2⟩ := o.of X G
  exact PE.imp (pe_cmpR h1 (ha X W G T) (hb X W G T) hm) fun σ H Q => rd_binE h2
theorem TVcmp (o : Op2 Γ sc (compareOp co) f) (hl : Bls f) (ha : SV Γ sc pa a ma) (hb : SV Γ sc true c mb) (hm : behindInMarks co c = false) : ST Γ sc pa (.Compare a [co] [c] pos) (mTru (mBin f ma mb)) := fun X W G T => by
  obtain ⟨r, h1, h2⟩ := o.of X G
  exact PT.imp (pt_cmpR h1 (ha X W G T) (hb X W G T) hm) fun σ H Q => rd_test (mBin_bl hl) fun σ H Q => rd_binV h2
theorem TEcmp (o : Op2 Γ sc (compareOp co) f) (hl : Bls f) (ha : SE Γ sc pa a ma) (hb : SE Γ sc pb c mb) (hm : behindInMarks co c = false) : ST Γ sc (pa && pb) (.Compare a [co] [c] pos) (mTru (mBin f ma mb)) := fun X W G T => by
  obtain ⟨r, h1, h2⟩ := o.of X G
  exact PT.imp (pt_cmpR h1 (ha X W G T) (hb X W G T) hm) fun σ H Q => rd_test (mBin_bl hl) fun σ H Q => rd_binE h2
/-- a view, then what may change things: the view must be an atom -/
theorem toAt (ha : SV Γ sc pa a ma) : SE Γ sc pa a (mAt ma) := ha.toE
/-! a reader tested -/
def mRT (f : D → D → Option D) (na nb : Rdr) : M Bool := fun env => match rBin f na nb env with
  | some (.bl t) => .ok t env
  | _ => .bad
theorem TRcmp (o : Op2 Γ sc (compareOp co) f) (ha : SR Γ sc a na) (hb : SR Γ sc c nb) (hm : behindInMarks co c = false) : ST Γ sc true (.Compare a [co] [c] pos) (mRT f na nb) := fun X W G T => by
  obtain ⟨r, h1, h2⟩ := o.of X G
  refine PT.imp (pt_cmpR h1 (ha X G) (hb X G) hm) fun σ H Q ⟨b, env, F, j, h⟩ => ?_
  unfold mRT at h
  split at h
  · rename_i t e
    refine rd_binR h2 ⟨b, env, F, .bl t, j, e, fun v k => ?_⟩
    have w := k.vw
    cases w
    exact ⟨t, rfl, h H j fun _ => Ext.refl H⟩
  · exact h.elim
end
end TL
end

-- text TL10
section
set_option Elab.async false
set_option linter.all false
set_option maxRecDepth 100000
set_option maxHeartbeats 4000000
namespace TL
open PySem PySem.Spec PyProof.Rows L2

section
variable {g : Glb} {b : Bs} {H H' : Hp} {ps qs : Prs} {σ : Sg} {env : En} {F : Prs} {v : V}
theorem zapp_perm {A B C : Prs} : (A ++ (B ++ C)).Perm (B ++ (A ++ C)) := by
  rw [← List.append_assoc, ← List.append_assoc]
  exact List.perm_append_comm.append_right C
/-- a list's items, the list let go -/
theorem JJ.readL {o : Bool} {ds : List D} (j : JJ g b H ((v, .lst o ds) :: ps)) : ∃ a vs, v = .ref a ∧ SqL g.K H a vs ∧ vs.length = ds.length ∧ JJ g b H (vs.zip ds ++ ps) := by
  obtain ⟨A, r, n, w⟩ := j
  obtain ⟨B, C, rfl, h1, h2⟩ := r.inv
  cases h1 with
  | lstF h z r => exact ⟨_, _, rfl, .inl h, r.length, _, RepP.app r.pairs h2, n, w⟩
  | lstK h r => exact ⟨_, _, rfl, h.sq, r.length, _, RepP.app r.pairs h2, n, w⟩
  | @lstO a vs _ B h r1 =>
    have s : ∀ x ∈ B ++ C, x ∈ a :: B ++ C := fun x m => List.mem_cons_of_mem _ m
    exact ⟨a, vs, rfl, .of h, r1.length, B ++ C, (RepP.app r1.pairs h2).mono s, (List.nodup_cons.mp n).2, w.sub s⟩
theorem JJ.readT {ds : List D} (j : JJ g b H ((v, .tup ds) :: ps)) : ∃ a vs, v = .ref a ∧ SqT g.K H a vs ∧ vs.length = ds.length ∧ JJ g b H (vs.zip ds ++ ps) := by
  obtain ⟨A, r, n, w⟩ := j
  obtain ⟨B, C, rfl, h1, h2⟩ := r.inv
  cases h1 with
  | tupH h z r => exact ⟨_, _, rfl, .inl h, r.length, _, RepP.app r.pairs h2, n, w⟩
  | tupK h r => exact ⟨_, _, rfl, h.sq, r.length, _, RepP.app r.pairs h2, n, w⟩
theorem JJ.readD {o : Bool} {kvs : List (Key × D)} (j : JJ g b H ((v, .dct o kvs) :: ps)) : ∃ a es, v = .ref a ∧ Rd H a (.dK es) ∧ es.map (·.1) = kvs.map (·.1) ∧ JJ g b H ((es.map (·.2)).zip (kvs.map (·.2)) ++ ps) := by
  obtain ⟨A, r, n, w⟩ := j
  obtain ⟨B, C, rfl, h1, h2⟩ := r.inv
  cases h1 with
  | dctF h z e r => exact ⟨_, _, rfl, h, e, _, RepP.app r.pairs h2, n, w⟩
  | @dctO a vs _ B h e r1 =>
    have s : ∀ x ∈ B ++ C, x ∈ a :: B ++ C := fun x m => List.mem_cons_of_mem _ m
    exact ⟨a, vs, rfl, .inl h, e, B ++ C, (RepP.app r1.pairs h2).mono s, (List.nodup_cons.mp n).2, w.sub s⟩
theorem SJ.readL {o : Bool} {ds : List D} (j : SJ g b H σ env ((v, .lst o ds) :: F)) : ∃ a vs, v = .ref a ∧ SqL g.K H a vs ∧ vs.length = ds.length ∧ SJ g b H σ env (vs.zip ds ++ F) := by
  obtain ⟨ps, s, j⟩ := j
  obtain ⟨a, vs, e, h, l, j2⟩ := JJ.readL (j.perm List.perm_middle)
  exact ⟨a, vs, e, h, l, ps, s, j2.perm zapp_perm⟩
theorem SJ.readT {ds : List D} (j : SJ g b H σ env ((v, .tup ds) :: F)) : ∃ a vs, v = .ref a ∧ SqT g.K H a vs ∧ vs.length = ds.length ∧ SJ g b H σ env (vs.zip ds ++ F) := by
  obtain ⟨ps, s, j⟩ := j
  obtain ⟨a, vs, e, h, l, j2⟩ := JJ.readT (j.perm List.perm_middle)
  exact ⟨a, vs, e, h, l, ps, s, j2.perm zapp_perm⟩
theorem SJ.readD {o : Bool} {kvs : List (Key × D)} (j : SJ g b H σ env ((v, .dct o kvs) :: F)) : ∃ a es, v = .ref a ∧ Rd H a (.dK es) ∧ es.map (·.1) = kvs.map (·.1) ∧ SJ g b H σ env ((es.map (·.2)).zip (kvs.map (·.2)) ++ F) := by
  obtain ⟨ps, s, j⟩ := j
  obtain ⟨a, vs, e, h, l, j2⟩ := JJ.readD (j.perm List.perm_middle)
  exact ⟨a, vs, e, h, l, ps, s, j2.perm zapp_perm⟩
/-- some of the pairs -/
theorem SJ.sub {qs : Prs} (n m : Nat) (j : SJ g b H σ env (qs ++ F)) : SJ g b H σ env ((qs.drop n).take m ++ F) := by
  have j1 : SJ g b H σ env (qs.take n ++ (qs.drop n ++ F)) := by
    rw [← List.append_assoc, List.take_append_drop]
    exact j
  have j2 := SJ.dropL j1
  have j3 : SJ g b H σ env ((qs.drop n).take m ++ ((qs.drop n).drop m ++ F)) := by
    rw [← List.append_assoc, List.take_append_drop]
    exact j2
  exact SJ.dropL (j3.perm zapp_perm)
/-- what owns nothing may be had as often as wanted -/
theorem JJ.rep {ps qs : Prs} (e : frzL (ps.map (·.2)) = ps.map (·.2)) (k : Nat) (j : JJ g b H (ps ++ qs)) : JJ g b H ((List.replicate k ps).flatten ++ qs) := by
  obtain ⟨A, r, n, w⟩ := j
  obtain ⟨B, C, rfl, h1, h2⟩ := r.split
  obtain rfl : B = [] := RepL.nil_of e h1
  have h3 : ∀ k, RepP g H (· ∈ [] ++ C) (List.replicate k ps).flatten [] := fun k => by
    induction k with
    | zero => exact RepL.nil
    | succ k ih => exact RepP.app (A := []) (B := []) h1 ih
  exact ⟨C, RepP.app (A := []) (h3 k) h2, n, w⟩
theorem SJ.rep {qs : Prs} (e : frzL (qs.map (·.2)) = qs.map (·.2)) (k : Nat) (j : SJ g b H σ env (qs ++ F)) : SJ g b H σ env ((List.replicate k qs).flatten ++ F) := by
  obtain ⟨ps, s, j⟩ := j
  exact ⟨ps, s, (JJ.rep e k (j.perm zapp_perm)).perm zapp_perm⟩
end
theorem zip_rep {α β : Type} (xs : List α) (ys : List β) (h : xs.length = ys.length) : ∀ k, (List.replicate k xs).flatten.zip (List.replicate k ys).flatten = (List.replicate k (xs.zip ys)).flatten
  | 0 => rfl
  | k + 1 => by
    rw [List.replicate_succ, List.replicate_succ, List.replicate_succ, List.flatten_cons, List.flatten_cons, List.flatten_cons, List.zip_append h, zip_rep xs ys h k]
theorem zip_snd {α β : Type} : ∀ {xs : List α} {ys : List β}, xs.length = ys.length → (xs.zip ys).map (·.2) = ys
  | [], [], _ => rfl
  | _ :: _, _ :: _, h => by
    rw [List.zip_cons_cons, List.map_cons, zip_snd (Nat.succ.inj h)]
  | [], _ :: _, h => nomatch h
  | _ :: _, [], h => nomatch h

/-! ### operations that make lists, tuples -/
def OpS (g : Glb) (f : D → D → Option D) (r : R2) : Prop := ∀ (b : Bs) (H : Hp) (σ : Sg) (env : En) (F : Prs) (x y : V) (dx dy dz : D) (Q : VK), SJ g b H σ env ((y, dy) :: (x, dx) :: F) → f dx dy = some dz → (∀ v H', SJ g b H' σ env ((v, dz) :: F) → Ext H H' → Q v H') → r x y H Q
theorem OpV.s {g : Glb} {f : D → D → Option D} {r : R2} (h : OpV g f r) : OpS g f r := fun b H σ env F x y dx dy dz Q j e q =>
  h H x y dx dy dz Q (SJ.vwF j.drop) j.vwF e fun v rv => q v H (j.drop.drop.add (rv H)) (Ext.refl H)
structure Op2S (Γ : Cs) (sc : Scope) (o : Value → Value → Sem Value) (f : D → D → Option D) : Prop where
  of : ∀ X, Good Γ sc X → ∃ r, OpR X o r ∧ OpS Γ.g f r
/-- list + list, of any kind -/
abbrev rCatL (K : PySem.W.Frag) : R2 := fun x y H Q => ∃ l b xs zs, x = .ref l ∧ y = .ref b ∧ SqL K H l xs ∧ SqL K H b zs ∧ xs.length + zs.length ≤ sizeLine ∧ ∀ p, H p = none → Q (.ref p) (upd H p (.lst (xs ++ zs)))
theorem op_catL {X : Cx} : OpR X (binaryOp .Add) (rCatL X.K) := by
  intro pins s σ H x y v u Q I rx ry h
  obtain ⟨l, b, xs, zs, rfl, rfl, hH, hB, hz, q⟩ := h
  cases rx
  cases ry
  obtain ⟨its, r, ⟨⟨cls, dd, data, sl⟩, n, ho, hc, hdd, hd⟩, hl⟩ := I.list hH
  obtain ⟨its2, r2, ⟨⟨cls2, dd2, data2, sl2⟩, n2, ho2, hc2, hdd2, hd2⟩, hl2⟩ := I.list hB
  simp only at hc hd hc2 hd2
  subst hc hd hc2 hd2
  refine PySem.concat_meets ⟨_, ho, rfl⟩ ⟨_, ho2, rfl⟩ noFill_list_add seq_list_add PySem.F.slot_list_add PySem.F.entry_list_add (PySem.F.args_list_add_2 _ _)
    (PyProof.Rows.list_addW l b its.toArray its2.toArray n n2 dd dd2 sl sl2 (by rw [List.size_toArray, List.size_toArray, ← r.length, ← r2.length]; exact hz)) ⟨ho, ho2, ?_⟩
  have ea : its.toArray ++ its2.toArray = (its ++ its2).toArray := by simp
  rw [ea]
  exact ⟨.ref _, _, I.lnew (t' := s.toks) (r.append r2) (by rw [List.length_append]; omega), rfl, q _ I.fresh⟩
def addC (x y : D) : Option D := match x, y with
  | .lst _ xs, .lst _ ys => if xs.length + ys.length ≤ sizeLine then some (.lst true (xs ++ ys)) else none
  | .tup xs, .tup ys => if xs.length + ys.length ≤ sizeLine then some (.tup (xs ++ ys)) else none
  | x, y => addA x y
section
variable {g : Glb}
abbrev rAddC (K : PySem.W.Frag) : R2 := fun x y H Q => (rCatL K x y H Q ∨ rCatA K x y H Q) ∨ rAddA x y H Q
theorem opS_add : OpS g addC (rAddC g.K) := fun b H σ env F x y dx dy dz Q j e q => by
  unfold addC at e
  split at e
  · rename_i o xs o' ys
    by_cases hz : xs.length + ys.length ≤ sizeLine
    · rw [if_pos hz] at e
      obtain rfl := Option.some.inj e
      obtain ⟨c, ws, rfl, h1, l1, j1⟩ := j.readL
      obtain ⟨a, vs, rfl, h2, l2, j2⟩ := SJ.readL (F := ws.zip ys ++ F) (j1.perm List.perm_middle)
      refine .inl (.inl ⟨a, c, vs, ws, rfl, rfl, h2, h1, by rw [l1, l2]; exact hz, fun p hp => ?_⟩)
      refine q _ _ (SJ.newLst hp (by rw [List.length_append, List.length_append, l1, l2]) ?_) (Ext.new hp)
      rw [List.zip_append l2, List.append_assoc]
      exact j2
    · rw [if_neg hz] at e; cases e
  · rename_i xs ys
    by_cases hz : xs.length + ys.length ≤ sizeLine
    · rw [if_pos hz] at e
      obtain rfl := Option.some.inj e
      have jx : SJ g b H σ env ((x, .tup xs) :: F) := j.drop
      have jy : SJ g b H σ env ((y, .tup ys) :: F) := SJ.drop (j.perm (.swap ..))
      obtain ⟨c, ws, rfl, h1, l1, j1⟩ := j.readT
      obtain ⟨a, vs, rfl, h2, l2, j2⟩ := SJ.readT (F := ws.zip ys ++ F) (j1.perm List.perm_middle)
      refine .inl (.inr ⟨a, c, vs, ws, rfl, rfl, h2, h1, by rw [l1, l2]; exact hz, fun e0 => ?_, fun _ e0 => ?_, fun _ _ p hp => ?_⟩)
      · obtain rfl : xs = [] := List.eq_nil_of_length_eq_zero (by rw [← l2, e0]; rfl)
        exact q _ _ jy (Ext.refl H)
      · obtain rfl : ys = [] := List.eq_nil_of_length_eq_zero (by rw [← l1, e0]; rfl)
        rw [List.append_nil] at q
        exact q _ _ jx (Ext.refl H)
      · refine q _ _ (SJ.newTup hp (by rw [List.length_append, List.length_append, l1, l2]) ?_) (Ext.new hp)
        rw [List.zip_append l2, List.append_assoc]
        exact j2
    · rw [if_neg hz] at e; cases e
  · exact .inr (opV_addA.s b H σ env F x y dx dy dz Q j e q)
theorem o_add {Γ : Cs} {sc : Scope} : Op2S Γ sc (binaryOp .Add) addC := ⟨fun X G => ⟨rAddC X.K, (op_catL.or op_catA).or op_addA, by rw [G.K]; exact opS_add⟩⟩
def mulC (x y : D) : Option D := match x, y with
  | .lst true xs, .int k => if (decide (-(2 ^ 63) ≤ k) && decide (k < 2 ^ 63) && decide (xs.length * k.toNat ≤ sizeLine) && isFrzL xs) = true then some (.lst true (List.replicate k.toNat xs).flatten) else none
  | x, y => mulD x y
theorem opS_mul : OpS g mulC (fun x y H Q => rRep x y H Q ∨ rI CMul (fun i j => .int (i * j)) x y H Q) := fun b H σ env F x y dx dy dz Q j e q => by
  unfold mulC at e
  split at e
  · rename_i xs k
    by_cases hz : (decide (-(2 ^ 63) ≤ k) && decide (k < 2 ^ 63) && decide (xs.length * k.toNat ≤ sizeLine) && isFrzL xs) = true
    · rw [if_pos hz] at e
      obtain rfl := Option.some.inj e
      simp only [Bool.and_eq_true, decide_eq_true_eq] at hz
      obtain ⟨⟨⟨h1, h2⟩, h3⟩, h4⟩ := hz
      have w := j.vwF
      cases w
      obtain ⟨a, vs, rfl, h5, l5, j5⟩ := SJ.openLst j.drop
      refine .inl ⟨a, k, vs, rfl, rfl, h5, h1, h2, by rw [l5]; exact h3, fun p hp => ?_⟩
      refine q _ _ (SJ.newLst hp (by simp [List.length_flatten, l5]) ?_) (Ext.new hp)
      rw [zip_rep _ _ l5]
      exact SJ.rep (by rw [zip_snd l5]; exact frzL_of h4) _ j5.drop
    · rw [if_neg hz] at e; cases e
  · exact .inr (opV_mul.s b H σ env F x y dx dy dz Q j e q)
theorem o_mulC {Γ : Cs} {sc : Scope} : Op2S Γ sc (binaryOp .Mult) mulC := ⟨fun X G => ⟨_, op_rep.or op_mul, opS_mul⟩⟩
end

section
variable {Γ : Cs} {sc : Scope} {p pa pb pc : Bool} {a c e : Expr} {ma mb mc : M D} {f : D → D → Option D} {op : Operator} {pos pos' : Pos}
theorem rd_binS {g : Glb} {f : D → D → Option D} {r : R2} {W : L2.WX} (hs : OpS g f r) {σ : Sg} {H : Hp} {Q : VK} (h : rdE g (pa && pb) W (mBin f ma mb) σ H Q) : tOp r (rdE g pa W ma) (rdE g pb W mb) σ H Q := by
  obtain ⟨b, env, F, j, h⟩ := h
  refine ⟨b, env, F, j, PoE.into (PoE g b (pa && pb) W σ H F Q) (fun _ _ _ h => h) (fun h => h) h fun dx e1 x H1 h j1 x1 => ?_⟩
  refine ⟨b, e1, (x, dx) :: F, j1, PoE.into (PoE g b (pa && pb) W σ H F Q) (fun _ _ _ h => XW.more h) (fun h => h) h fun dy e2 y H2 h j2 x2 => ?_⟩
  cases e : f dx dy with
  | none => rw [e] at h; exact h.elim
  | some dz =>
    rw [e] at h
    exact hs b H2 σ e2 F x y dx dy dz Q j2 e fun v H' j' x' => h v H' j' fun hp => (ext_and x1 x2 hp).trans x'
theorem Sbin (o : Op2S Γ sc (binaryOp op) f) (ha : SE Γ sc pa a ma) (hb : SE Γ sc pb c mb) : SE Γ sc (pa && pb) (.BinOp a op c pos) (mBin f ma mb) := fun X W G T => by
  obtain ⟨r, h1, h2⟩ := o.of X G
  exact PE.imp (pe_op h1 (ha X W G T) (hb X W G T)) fun σ H Q => rd_binS h2

/-! ### arguments, displays -/
def mNil : M (List D) := fun env => .ok [] env
def mCons (m : M D) (ms : M (List D)) : M (List D) := fun env => (m env).bind fun d e => (ms e).bind fun ds e => .ok (d :: ds) e
theorem SA_nil : SA Γ sc true [] mNil := fun X W G T => PA.imp pa_nil fun σ H Q ⟨b, env, F, j, h⟩ => h [] H rfl j fun _ => Ext.refl H
theorem SA_cons {es : List Expr} {ms : M (List D)} (ha : SE Γ sc pa e ma) (hr : SA Γ sc pb es ms) (hs : ∀ X : Cx, starEach (e :: es) X.env = (false, eval e X.env) :: starEach es X.env := by intro _; rfl) : SA Γ sc (pa && pb) (e :: es) (mCons ma ms) := fun X W G T =>
  PA.imp (pa_cons (ha X W G T) (hr X W G T) (hs X)) fun σ H Q ⟨b, env, F, j, h⟩ => ⟨b, env, F, j, PoE.into (PoA Γ.g b (pa && pb) W σ H F Q) (fun _ _ _ h => h) (fun h => h) h fun dx e1 x H1 h j1 x1 =>
    ⟨b, e1, (x, dx) :: F, j1, PoA.into (PoA Γ.g b (pa && pb) W σ H F Q) (fun _ _ _ h => XW.more h) (fun h => h) h fun ds e2 vs H2 h l j2 x2 =>
      h (x :: vs) H2 (congrArg Nat.succ l) (j2.perm List.perm_middle) (ext_and x1 x2)⟩⟩
def mTup (ms : M (List D)) : M D := fun env => (ms env).bind fun ds e => if ds.length ≤ sizeLine then .ok (.tup ds) e else .bad
def mLst (ms : M (List D)) : M D := fun env => (ms env).bind fun ds e => if ds.length ≤ sizeLine then .ok (.lst true ds) e else .bad
theorem SE_tup {es : List Expr} {ms : M (List D)} {x1} (h : SA Γ sc p es ms) : SE Γ sc p (.Tuple es x1 pos) (mTup ms) := fun X W G T =>
  PE.imp (pe_tup (h X W G T)) fun σ H Q ⟨b, env, F, j, h⟩ => ⟨b, env, F, j, PoA.into (PoE Γ.g b p W σ H F Q) (fun _ _ _ h => h) (fun h => h) h fun ds e1 vs H1 h l j1 x1 => by
    by_cases hz : ds.length ≤ sizeLine
    · rw [if_pos hz] at h
      exact ⟨by rw [l]; exact hz, fun q hq => h _ _ (SJ.newTup hq l j1) fun hp => (x1 hp).trans (Ext.new hq)⟩
    · rw [if_neg hz] at h
      exact h.elim⟩
theorem SE_lst {es : List Expr} {ms : M (List D)} (h : SA Γ sc p es ms) : SE Γ sc p (.List es pos) (mLst ms) := fun X W G T =>
  PE.imp (pe_lst (h X W G T)) fun σ H Q ⟨b, env, F, j, h⟩ => ⟨b, env, F, j, PoA.into (PoE Γ.g b p W σ H F Q) (fun _ _ _ h => h) (fun h => h) h fun ds e1 vs H1 h l j1 x1 => by
    by_cases hz : ds.length ≤ sizeLine
    · rw [if_pos hz] at h
      exact ⟨by rw [l]; exact hz, fun q hq => h _ _ (SJ.newLst hq l j1) fun hp => (x1 hp).trans (Ext.new hq)⟩
    · rw [if_neg hz] at h
      exact h.elim⟩

/-! ### an item of a value had -/
def mIx (ma mb : M D) : M D := fun env => (ma env).bind fun d e => (mb e).bind fun i e => match ixD (frz d) i with
  | some z => if isFrz z = true then .ok z e else .bad
  | none => .bad
theorem SE_ix (ha : SE Γ sc pa a ma) (hb : SE Γ sc pb c mb) (hs : PlainIx c) : SE Γ sc (pa && pb) (.Subscript a c pos) (mIx ma mb) := fun X W G T =>
  PE.imp (pe_ix ix_seq (ha X W G T) (hb X W G T) hs) fun σ H Q ⟨b, env, F, j, h⟩ => ⟨b, env, F, j, PoE.into (PoE Γ.g b (pa && pb) W σ H F Q) (fun _ _ _ h => h) (fun h => h) h fun dx e1 x H1 h j1 x1 =>
    ⟨b, e1, (x, dx) :: F, j1, PoE.into (PoE Γ.g b (pa && pb) W σ H F Q) (fun _ _ _ h => XW.more h) (fun h => h) h fun dy e2 y H2 h j2 x2 => by
      have j3 : SJ Γ.g b H2 σ e2 ((x, frz dx) :: F) := SJ.freeze j2.drop
      cases q : ixD (frz dx) dy with
      | none => rw [q] at h; exact h.elim
      | some z =>
        rw [q] at h
        dsimp only at h
        by_cases hf : isFrz z = true
        · rw [if_pos hf] at h
          rw [G.K]
          refine ix_lk j3.lkF j2.vwF q fun w k => ?_
          exact h w H2 (SJ.drop ((k.own hf).perm (.swap ..))) (ext_and x1 x2)
        · rw [if_neg hf] at h
          exact h.elim⟩⟩
/-! ### slices -/
def PoO (g : Glb) (b : Bs) (p : Bool) (W : L2.WX) (σ : Sg) (H : Hp) (F : Prs) (Q : Option Int → Hp → Prop) : Rs (Option Int) → Prop
  | .ok t e => ∀ H', SJ g b H' σ e F → (p = true → Ext H H') → Q t H'
  | .exc c fs e => XW g b W σ F e c fs
  | .bad => False
def rdO (g : Glb) (p : Bool) (W : L2.WX) (m : M (Option Int)) : TO := fun σ H Q => ∃ b env F, SJ g b H σ env F ∧ PoO g b p W σ H F Q (m env)
def SO (Γ : Cs) (sc : Scope) (p : Bool) (e : Option Expr) (m : M (Option Int)) : Prop := ∀ X W, Good Γ sc X → Takes X W → PO X e (rdO Γ.g p W m)
theorem PO.imp {X : Cx} {e : Option Expr} {t t' : TO} (h : PO X e t) (i : ∀ σ H Q, t' σ H Q → t σ H Q) : PO X e t' := ⟨fun pins s σ H Q I hw => h.run pins s σ H Q I (i σ H Q hw)⟩
def mNoPart : M (Option Int) := fun env => .ok none env
def mPart (m : M D) : M (Option Int) := fun env => (m env).bind fun d e => match d with
  | .int i => .ok (some i) e
  | _ => .bad
theorem SO_none : SO Γ sc true none mNoPart := fun X W G T => PO.imp po_none fun σ H Q ⟨b, env, F, j, h⟩ => h H j fun _ => Ext.refl H
theorem SO_some (h : SE Γ sc p e ma) : SO Γ sc p (some e) (mPart ma) := fun X W G T => PO.imp (po_some (h X W G T)) fun σ H Q ⟨b, env, F, j, h⟩ =>
  ⟨b, env, F, j, PoE.into (PoO Γ.g b p W σ H F Q) (fun _ _ _ h => h) (fun h => h) h fun d e v H1 h j1 x1 => by
    have w := j1.vwF
    cases w <;> try exact h.elim
    exact ⟨_, rfl, h H1 j1.drop x1⟩⟩
def cutL {α : Type} (xs : List α) (lo hi : Option Int) : List α := (xs.drop (HT.sIx xs.length 0 lo)).take (HT.sIx xs.length xs.length hi - HT.sIx xs.length 0 lo)
def cutD (x : D) (lo hi : Option Int) : Option D := match x with
  | .lst _ xs => some (.lst true (cutL xs lo hi))
  | .tup xs => some (.tup (cutL xs lo hi))
  | .str z => if z.length ≤ sizeLine then some (.str (cutS z lo hi)) else none
  | _ => none
def mCut (ma : M D) (ml mh : M (Option Int)) : M D := fun env => (ma env).bind fun d e => (ml e).bind fun lo e => (mh e).bind fun hi e => match cutD d lo hi with
  | some z => .ok z e
  | none => .bad
theorem PoO.into {α : Type} {g : Glb} {b : Bs} {W : L2.WX} {σ : Sg} {H : Hp} {F : Prs} {r : Rs (Option Int)} {k : Option Int → En → Rs α} {Q : Option Int → Hp → Prop} (S : Rs α → Prop) (hx : ∀ c fs e, S (.exc c fs e) → XW g b W σ F e c fs) (hb : S .bad → False) (h : S (r.bind k))
    (go : ∀ t e H', S (k t e) → SJ g b H' σ e F → (p = true → Ext H H') → Q t H') : PoO g b p W σ H F Q r := by
  cases r with
  | ok t e => exact fun H' j x => go t e H' h j x
  | exc c fs e => exact hx c fs e h
  | bad => exact hb h
theorem cut_zip {vs : List V} {ds : List D} (l : vs.length = ds.length) (lo hi : Option Int) : (cutV vs lo hi).zip (cutL ds lo hi) = ((vs.zip ds).drop (HT.sIx ds.length 0 lo)).take (HT.sIx ds.length ds.length hi - HT.sIx ds.length 0 lo) := by
  unfold cutV cutL
  rw [l]
  simp only [List.zip, List.drop_zipWith, List.take_zipWith]
theorem cut_len {vs : List V} {ds : List D} (l : vs.length = ds.length) (lo hi : Option Int) : (cutV vs lo hi).length = (cutL ds lo hi).length := by
  unfold cutV cutL
  rw [List.length_take, List.length_take, List.length_drop, List.length_drop, l]
theorem cut_all {α : Type} (xs : List α) {lo hi : Option Int} (h : HT.sIx xs.length 0 lo = 0 ∧ HT.sIx xs.length xs.length hi = xs.length) : cutL xs lo hi = xs := by
  unfold cutL
  rw [h.1, h.2, List.drop_zero, Nat.sub_zero, List.take_length]
abbrev rCut (K : PySem.W.Frag) : V → Option Int → Option Int → Hp → VK → Prop := fun x lo hi H Q => (rSlL K x lo hi H Q ∨ rSlA K x lo hi H Q) ∨ rSlS x lo hi H Q
theorem cut_s {g : Glb} {b : Bs} {H : Hp} {σ : Sg} {env : En} {F : Prs} {x : V} {dx dz : D} {lo hi : Option Int} {Q : VK} (j : SJ g b H σ env ((x, dx) :: F)) (e : cutD dx lo hi = some dz) (q : ∀ v H', SJ g b H' σ env ((v, dz) :: F) → Ext H H' → Q v H') : rCut g.K x lo hi H Q := by
  unfold cutD at e
  split at e
  · rename_i o xs
    obtain rfl := Option.some.inj e
    obtain ⟨a, vs, rfl, h, l, j1⟩ := j.readL
    refine .inl (.inl ⟨a, vs, rfl, h, fun p hp => q _ _ (SJ.newLst hp (cut_len l lo hi) ?_) (Ext.new hp)⟩)
    rw [cut_zip l]
    exact j1.sub _ _
  · rename_i xs
    obtain rfl := Option.some.inj e
    have j0 := j
    obtain ⟨a, vs, rfl, h, l, j1⟩ := j.readT
    refine .inl (.inr ⟨a, vs, rfl, h, fun hc => ?_, fun hc p hp => q _ _ (SJ.newTup hp (cut_len l lo hi) ?_) (Ext.new hp)⟩)
    · rw [l] at hc
      rw [cut_all _ hc] at q
      exact q _ _ j0 (Ext.refl H)
    · rw [cut_zip l]
      exact j1.sub _ _
  · rename_i z
    by_cases hz : z.length ≤ sizeLine
    · rw [if_pos hz] at e
      obtain rfl := Option.some.inj e
      have w := j.vwF
      cases w
      exact .inr ⟨z, rfl, hz, q _ _ (j.drop.add fun _ => .str _) (Ext.refl H)⟩
    · rw [if_neg hz] at e; cases e
  · cases e
theorem SE_cut {lo hi : Option Expr} {ml mh : M (Option Int)} {p2 : Pos} (ha : SE Γ sc pa a ma) (hl : SO Γ sc pb lo ml) (hh : SO Γ sc pc hi mh) : SE Γ sc (pa && (pb && pc)) (.Subscript a (.Slice lo hi none p2) pos) (mCut ma ml mh) := fun X W G T =>
  PE.imp (pe_slice ((sl_list.or sl_tupA).or sl_str) (ha X W G T) (hl X W G T) (hh X W G T)) fun σ H Q ⟨b, env, F, j, h⟩ =>
    ⟨b, env, F, j, PoE.into (PoE Γ.g b (pa && (pb && pc)) W σ H F Q) (fun _ _ _ h => h) (fun h => h) h fun dx e1 x H1 h j1 x1 =>
      ⟨b, e1, (x, dx) :: F, j1, PoO.into (PoE Γ.g b (pa && (pb && pc)) W σ H F Q) (fun _ _ _ h => XW.more h) (fun h => h) h fun lo e2 H2 h j2 x2 =>
        ⟨b, e2, (x, dx) :: F, j2, PoO.into (PoE Γ.g b (pa && (pb && pc)) W σ H F Q) (fun _ _ _ h => XW.more h) (fun h => h) h fun hi e3 H3 h j3 x3 => by
          cases e : cutD dx lo hi with
          | none => rw [e] at h; exact h.elim
          | some dz =>
            rw [e] at h
            rw [G.K]
            exact cut_s j3 e fun v H' j' x' => h v H' j' fun hp => (ext_and x1 (ext_and x2 x3) hp).trans x'⟩⟩⟩
end
end TL
end

-- text TL11
section
set_option Elab.async false
set_option linter.all false
set_option maxRecDepth 100000
set_option maxHeartbeats 4000000
namespace TL
open PySem PySem.Spec PyProof.Rows L2

/-! ### calls of what is built in -/
/-- x is a name of what is built in -/
structure Blt (Γ : Cs) (sc : Scope) (x : Str) (v : Value) : Prop where
  gl : sc.names.lookup x = some .globalImplicit
  mg : Γ.mg x = none
  bt : bootBuiltins x = some v
theorem gl_of {X : Cx} {sc : Scope} {x : Str} (h : sc.names.lookup x = some .globalImplicit) (e : X.env.scope = sc) : Gl X x := by
  unfold Gl PySem.Env.kindOf
  rw [e]
  exact h
section
variable {Γ : Cs} {sc : Scope} {p pa pb pc : Bool} {a c e : Expr} {es : List Expr} {ma mb mc : M D} {ms : M (List D)} {na nb n : Rdr} {pos pos' : Pos} {x : Str}
theorem Blt.g {v : Value} (h : Blt Γ sc x v) {X : Cx} (G : Good Γ sc X) : Gl X x := gl_of h.gl G.sc
theorem Blt.m {v : Value} (h : Blt Γ sc x v) {X : Cx} (G : Good Γ sc X) : X.mg x = none := by rw [G.mg]; exact h.mg
/-- one operand, looked at -/
def B1 (g : Glb) (f : D → Option D) (r : List V → Hp → VK → Prop) : Prop := ∀ (H : Hp) (x : V) (dx dz : D) (Q : VK), Vw g H x dx → f dx = some dz → (∀ v, (∀ H Z, Rep g H Z v dz []) → Q v H) → r [x] H Q
theorem rd_1 {g : Glb} {f : D → Option D} {r : List V → Hp → VK → Prop} (hs : B1 g f r) {σ : Sg} {H : Hp} {Q : VK} (h : rdR g (rUn f n) σ H Q) : tCB r (tCons (rdR g n) tNil) σ H Q := by
  obtain ⟨b, env, F, z, j, hd, h⟩ := h
  obtain ⟨x, h1, h2⟩ := Option.bind_eq_some_iff.mp hd
  exact ⟨b, env, F, x, j, h1, fun v k => hs H v x z Q k.vw h2 fun w rw => h w (Lk.add rw j)⟩
theorem R_b1 {id : String} {f : D → Option D} {pn : Pos} (hB : Blt Γ sc x (.builtin id)) (hc : ∀ X, Good Γ sc X → ∃ r, CallR X (.builtin id) r ∧ B1 Γ.g f r) (ha : SR Γ sc e n)
    (he : ∀ X : Cx, starEach [e] X.env = (false, eval e X.env) :: starEach [] X.env := by intro _; rfl) (hn : x ≠ "__name__" := by decide) (hdb : (x == ("__debug__" : Str)) = false := by decide) : SR Γ sc (.Call (.Name x pn) [e] [] pos) (rUn f n) := fun X G => by
  obtain ⟨r, h1, h2⟩ := hc X G
  exact PE.imp (pe_callB h1 (hB.g G) (hB.m G) hB.bt (pa_cons (ha X G) pa_nil (he X)) hn hdb (he X) rfl) fun σ H Q => rd_1 h2
theorem R_t1 {T : String} {f : D → Option D} {pn : Pos} (hB : Blt Γ sc x (.type T)) (hc : ∀ X, Good Γ sc X → ∃ r, CallR X (.type T) r ∧ B1 Γ.g f r) (ha : SR Γ sc e n)
    (he : ∀ X : Cx, starEach [e] X.env = (false, eval e X.env) :: starEach [] X.env := by intro _; rfl) (hn : x ≠ "__name__" := by decide) (hdb : (x == ("__debug__" : Str)) = false := by decide) : SR Γ sc (.Call (.Name x pn) [e] [] pos) (rUn f n) := fun X G => by
  obtain ⟨r, h1, h2⟩ := hc X G
  exact PE.imp (pe_callTy h1 (hB.g G) (hB.m G) hB.bt (pa_cons (ha X G) pa_nil (he X)) hn hdb (he X) rfl) fun σ H Q => rd_1 h2
/-- operands had -/
def BOp (g : Glb) (f : List D → Option D) (r : List V → Hp → VK → Prop) : Prop := ∀ (b : Bs) (H : Hp) (σ : Sg) (env : En) (F : Prs) (vs : List V) (ds : List D) (dz : D) (Q : VK), vs.length = ds.length → SJ g b H σ env (vs.zip ds ++ F) → f ds = some dz → (∀ v H', SJ g b H' σ env ((v, dz) :: F) → Ext H H' → Q v H') → r vs H Q
def mB (f : List D → Option D) (ms : M (List D)) : M D := fun env => (ms env).bind fun ds e => match f ds with
  | some d => .ok d e
  | none => .bad
theorem rd_B {g : Glb} {W : L2.WX} {f : List D → Option D} {r : List V → Hp → VK → Prop} (hs : BOp g f r) {σ : Sg} {H : Hp} {Q : VK} (h : rdE g p W (mB f ms) σ H Q) : tCB r (rdA g p W ms) σ H Q := by
  obtain ⟨b, env, F, j, h⟩ := h
  refine ⟨b, env, F, j, PoA.into (PoE g b p W σ H F Q) (fun _ _ _ h => h) (fun h => h) h fun ds e1 vs H1 h l j1 x1 => ?_⟩
  cases q : f ds with
  | none => rw [q] at h; exact h.elim
  | some dz =>
    rw [q] at h
    exact hs b H1 σ e1 F vs ds dz Q l j1 q fun v H' j' x' => h v H' j' fun hp => (x1 hp).trans x'
theorem E_b {id : String} {f : List D → Option D} {pn : Pos} (hB : Blt Γ sc x (.builtin id)) (hc : ∀ X, Good Γ sc X → ∃ r, CallR X (.builtin id) r ∧ BOp Γ.g f r) (ha : SA Γ sc p (e :: es) ms)
    (he : ∀ X : Cx, starEach (e :: es) X.env = (false, eval e X.env) :: starEach es X.env := by intro _; rfl) (hpl : ∀ X : Cx, (backTo pos (starEach es X.env)).any (·.1) = false := by intro _; rfl) (hn : x ≠ "__name__" := by decide) (hdb : (x == ("__debug__" : Str)) = false := by decide) :
    SE Γ sc p (.Call (.Name x pn) (e :: es) [] pos) (mB f ms) := fun X W G T => by
  obtain ⟨r, h1, h2⟩ := hc X G
  exact PE.imp (pe_callB h1 (hB.g G) (hB.m G) hB.bt (ha X W G T) hn hdb (he X) (hpl X)) fun σ H Q => rd_B h2
theorem E_t {T : String} {f : List D → Option D} {pn : Pos} (hB : Blt Γ sc x (.type T)) (hc : ∀ X, Good Γ sc X → ∃ r, CallR X (.type T) r ∧ BOp Γ.g f r) (ha : SA Γ sc p (e :: es) ms)
    (he : ∀ X : Cx, starEach (e :: es) X.env = (false, eval e X.env) :: starEach es X.env := by intro _; rfl) (hpl : ∀ X : Cx, (backTo pos (starEach es X.env)).any (·.1) = false := by intro _; rfl) (hn : x ≠ "__name__" := by decide) (hdb : (x == ("__debug__" : Str)) = false := by decide) :
    SE Γ sc p (.Call (.Name x pn) (e :: es) [] pos) (mB f ms) := fun X W G T => by
  obtain ⟨r, h1, h2⟩ := hc X G
  exact PE.imp (pe_callTy h1 (hB.g G) (hB.m G) hB.bt (ha X W G T) hn hdb (he X) (hpl X)) fun σ H Q => rd_B h2

/-! len -/
def lenD : D → Option D
  | .str s => if s.length ≤ sizeLine then some (.int s.length) else none
  | .lst _ xs => some (.int xs.length)
  | .tup xs => some (.int xs.length)
  | _ => none
theorem b_len {g : Glb} : B1 g lenD (fun xs H Q => ∃ x n, xs = [x] ∧ LenV g.K x H n ∧ Q (.int n) H) := fun H x dx dz Q w e q => by
  cases w <;> try (cases e; done)
  · rename_i s
    have e' : (if s.length ≤ sizeLine then some (D.int s.length) else none) = some dz := e
    by_cases h : s.length ≤ sizeLine
    · rw [if_pos h] at e'
      obtain rfl := Option.some.inj e'
      exact ⟨_, s.length, rfl, ⟨h, rfl⟩, q _ fun _ _ => .int _⟩
    · rw [if_neg h] at e'; cases e'
  · rename_i a vs ds h r
    obtain rfl := Option.some.inj e
    exact ⟨_, ds.length, rfl, .inr ⟨vs, h, r.length.symm⟩, q _ fun _ _ => .int _⟩
  · rename_i a vs ds h r
    obtain rfl := Option.some.inj e
    exact ⟨_, ds.length, rfl, .inl ⟨vs, h, r.length.symm⟩, q _ fun _ _ => .int _⟩
theorem R_len {pn : Pos} (hB : Blt Γ sc "len" (.builtin "len")) (ha : SR Γ sc e n) (he : ∀ X : Cx, starEach [e] X.env = (false, eval e X.env) :: starEach [] X.env := by intro _; rfl) : SR Γ sc (.Call (.Name "len" pn) [e] [] pos) (rUn lenD n) :=
  R_b1 hB (fun X G => ⟨_, call_len, by rw [G.K]; exact b_len⟩) ha he
def absD : D → Option D
  | .int i => some (.int (if i < 0 then -i else i))
  | _ => none
theorem R_abs {pn : Pos} (hB : Blt Γ sc "abs" (.builtin "abs")) (ha : SR Γ sc e n) (he : ∀ X : Cx, starEach [e] X.env = (false, eval e X.env) :: starEach [] X.env := by intro _; rfl) : SR Γ sc (.Call (.Name "abs" pn) [e] [] pos) (rUn absD n) :=
  R_b1 hB (fun X G => ⟨_, call_abs, fun H x dx dz Q w e q => by
    cases w <;> try (cases e; done)
    obtain rfl := Option.some.inj e
    exact ⟨_, rfl, q _ fun _ _ => .int _⟩⟩) ha he
/-! ### isinstance -/
def tyD : D → Option String
  | .non => some "NoneType" | .bl _ => some "bool" | .int _ => some "int" | .str _ => some "str" | .tup _ => some "tuple" | .lst _ _ => some "list" | .dct _ _ => some "dict"
  | _ => none
theorem tyx_of {g : Glb} {H : Hp} {v : V} {d : D} {t : String} (w : Vw g H v d) (e : tyD d = some t) : TyX g.K H v (.type t) := by
  cases w <;> first | (cases e; done) | (cases Option.some.inj e)
  · exact .base .non
  · exact .base (.bl _)
  · exact .base (.int _)
  · exact .base (.str _)
  · rename_i h r
    rcases h with (h | ⟨o, h⟩) | ⟨o, its, n, h, hc, _⟩
    · exact .base (.tup h)
    · exact .fTuple h
    · exact .kTuple h hc
  · rename_i h r
    rcases h with (h | ⟨o, h⟩) | ⟨o, its, n, h, hc, _⟩
    · exact .base (.lst h)
    · exact .base (.frz h)
    · exact .kList h hc
  · rename_i h e r
    rcases h with h | ⟨o, h⟩
    · exact .base (.dK h)
    · exact .fDict h
/-- is the kind t, u of what is built in, one of u? -/
def isi1 (t u : String) : Bool := t == u || (t == "bool" && u == "int")
def tyIn : List String := ["NoneType", "bool", "int", "str", "tuple", "list", "dict"]
theorem kit_ty {K : PySem.W.Frag} {t u : String} (ht : t ∈ tyIn) (hu : u ∈ tyIn) : PySem.W.kitOne K (.type t) (.type u) = some (isi1 t u) := by
  simp only [tyIn, List.mem_cons, List.not_mem_nil, or_false] at ht hu
  rcases ht with rfl | rfl | rfl | rfl | rfl | rfl | rfl <;> rcases hu with rfl | rfl | rfl | rfl | rfl | rfl | rfl <;> rfl
theorem tyD_in {d : D} {t : String} (e : tyD d = some t) : t ∈ tyIn := by
  cases d <;> first | (cases e; done) | (cases Option.some.inj e; decide)
def isiD (us : List String) (d : D) : Option D := (tyD d).map fun t => .bl (us.any fun u => isi1 t u)
theorem kit_any {K : PySem.W.Frag} {t : String} (ht : t ∈ tyIn) : ∀ {us : List String}, (∀ u ∈ us, u ∈ tyIn) → PySem.W.kitAny K (.type t) (us.map .type) = some (us.any fun u => isi1 t u)
  | [], _ => rfl
  | u :: us, h => by
    show (match PySem.W.kitOne K (.type t) (.type u) with | some true => some true | some false => PySem.W.kitAny K (.type t) (us.map .type) | none => none) = _
    rw [kit_ty ht (h u List.mem_cons_self), kit_any ht fun v m => h v (List.mem_cons_of_mem _ m), List.any_cons]
    cases isi1 t u <;> rfl
theorem R_isi1 {u : String} {y : Str} {pn py : Pos} (hB : Blt Γ sc "isinstance" (.builtin "isinstance")) (hT : Blt Γ sc y (.type u)) (ha : SR Γ sc e n) (hu : u ∈ tyIn := by decide) (hy : y ≠ "__name__" := by decide) (hyd : (y == ("__debug__" : Str)) = false := by decide)
    (he : ∀ X : Cx, starEach [e, .Name y py] X.env = (false, eval e X.env) :: starEach [.Name y py] X.env := by intro _; rfl) : SR Γ sc (.Call (.Name "isinstance" pn) [e, .Name y py] [] pos) (rUn (isiD [u]) n) := fun X G =>
  PE.imp (pe_callB call_isi (hB.g G) (hB.m G) hB.bt (pa_cons (ha X G) (pa_cons (pe_bltn (v := .ty u) (hT.g G) (hT.m G) hT.bt rfl hy hyd) pa_nil (by rfl)) (he X)) (by decide) (by decide) (he X) rfl) fun σ H Q ⟨b, env, F, z, j, hd, h⟩ => by
    obtain ⟨x, h1, h2⟩ := Option.bind_eq_some_iff.mp hd
    obtain ⟨t, h3, h4⟩ := Option.map_eq_some_iff.mp h2
    refine ⟨b, env, F, x, j, h1, fun v k => ⟨v, .ty u, .type t, .type u, isi1 t u, rfl, .ty u, by rw [G.K]; exact tyx_of k.vw h3, kit_ty (tyD_in h3) hu, h _ (Lk.add (fun _ _ => ?_) j)⟩⟩
    rw [← h4]
    simp only [List.any_cons, List.any_nil, Bool.or_false]
    exact .bl _
theorem mRead_lk {g : Glb} {b : Bs} {H : Hp} {σ : Sg} {env : En} {F : Prs} {v : V} {d : D} {p : Addr} {o : HO} (k : Lk g b H σ env F v d) (hp : H p = none) : Vw g (upd H p o) v d := k.vw.ext (Ext.new hp)
def mUn (f : D → Option D) (n : Rdr) : M D := fun env => match rUn f n env with
  | some d => .ok d env
  | none => .bad
/-- names of kinds of what is built in, in a tuple -/
inductive TyNames (Γ : Cs) (sc : Scope) : List Expr → List String → Prop
  | nil : TyNames Γ sc [] []
  | cons {y : Str} {py : Pos} {u : String} {es : List Expr} {us : List String} (hT : Blt Γ sc y (.type u)) (hu : u ∈ tyIn) (hy : y ≠ "__name__") (hyd : (y == ("__debug__" : Str)) = false) (r : TyNames Γ sc es us) : TyNames Γ sc (.Name y py :: es) (u :: us)
theorem TyNames.args {es : List Expr} {us : List String} (h : TyNames Γ sc es us) {X : Cx} (G : Good Γ sc X) : PA X es (fun σ H Q => Q (us.map .ty) H) := by
  induction h with
  | nil => exact pa_nil
  | cons hT hu hy hyd r ih => exact pa_cons (pe_bltn (v := .ty _) (hT.g G) (hT.m G) hT.bt rfl hy hyd) ih (by rfl)
theorem TyNames.mem {es : List Expr} {us : List String} (h : TyNames Γ sc es us) : ∀ u ∈ us, u ∈ tyIn := by
  induction h with
  | nil => intro u m; cases m
  | cons hT hu hy hyd r ih =>
    intro v m
    rcases List.mem_cons.mp m with rfl | m
    · exact hu
    · exact ih v m
theorem paired_ty : ∀ us : List String, Paired ClsV (us.map V.ty) (us.map Value.type)
  | [] => .nil
  | u :: us => .cons (.ty u) (paired_ty us)
theorem E_isiT {us : List String} {es : List Expr} {x1} {pn pt : Pos} (hB : Blt Γ sc "isinstance" (.builtin "isinstance")) (hT : TyNames Γ sc es us) (ha : SR Γ sc e n) (hl : us.length ≤ sizeLine := by decide)
    (he : ∀ X : Cx, starEach [e, .Tuple es x1 pt] X.env = (false, eval e X.env) :: starEach [.Tuple es x1 pt] X.env := by intro _; rfl) : SE Γ sc true (.Call (.Name "isinstance" pn) [e, .Tuple es x1 pt] [] pos) (mUn (isiD us) n) := fun X W G T =>
  PE.imp (pe_callB call_isiT (hB.g G) (hB.m G) hB.bt (pa_cons (ha X G) (pa_cons (pe_tup (hT.args G)) pa_nil (by rfl)) (he X)) (by decide) (by decide) (he X) rfl) fun σ H Q ⟨b, env, F, j, h⟩ => by
    unfold mUn at h
    cases hd : rUn (isiD us) n env with
    | none => rw [hd] at h; exact h.elim
    | some z =>
      rw [hd] at h
      obtain ⟨x, h1, h2⟩ := Option.bind_eq_some_iff.mp hd
      obtain ⟨t, h3, h4⟩ := Option.map_eq_some_iff.mp h2
      refine ⟨b, env, F, x, j, h1, fun v k => ⟨by rw [List.length_map]; exact hl, fun p hp => ⟨v, p, us.map .ty, .type t, us.map .type, us.any fun u => isi1 t u, rfl, upd_same, paired_ty us, ?_, kit_any (tyD_in h3) hT.mem, h _ _ ?_ fun _ => Ext.new hp⟩⟩⟩
      · rw [G.K]
        exact tyx_of (mRead_lk k hp) h3
      · have j2 : SJ Γ.g b (upd H p (.tup (us.map V.ty))) σ env F := j.ext (Ext.new hp)
        rw [← h4]
        exact j2.add fun _ => .bl _
end
end TL
end

-- text TL12
section
set_option Elab.async false
set_option linter.all false
set_option maxRecDepth 100000
set_option maxHeartbeats 4000000
namespace TL
open PySem PySem.Spec PyProof.Rows L2

/-! ### statements -/
inductive RS where
  | nx (e : En) | rt (d : D) (e : En) | bk (e : En) | ct (e : En)
  | exc (c : Str) (fs : List (Str × D)) (e : En)
  | bad
abbrev MS := En → RS
def Rs.s {α : Type} (r : Rs α) (k : α → En → RS) : RS := match r with
  | .ok d e => k d e
  | .exc c fs e => .exc c fs e
  | .bad => .bad
/-- what the names that are lent bear -/
def Pins (pv : List (Nat × V)) (σ : Sg) : Prop := ∀ p ∈ pv, σ[p.1]? = some (some p.2)
/-- what the behaviour of a body is about: the frame, the lent names -/
structure Fr where
  b : Bs
  F : Prs
  pv : List (Nat × V)
section
variable (g : Glb) (W : L2.WX) (φ : Fr)
def XS (c : Str) (fs : List (Str × D)) (e : En) : Prop := ∀ (σ : Sg) (C d : Addr) (H : Hp) (vfs : List (Str × V)), g.cls c = some C → H d = some (.xd vfs) → vfs.map (·.1) = fs.map (·.1) →
  SJ g φ.b H σ e ((vfs.map (·.2)).zip (fs.map (·.2)) ++ φ.F) → Pins φ.pv σ → W (.ref C) (some d) σ H
def NxS (e : En) (Q : L2.St → Hp → Prop) : Prop := ∀ σ H, SJ g φ.b H σ e φ.F → Pins φ.pv σ → Q σ H
def PoS (D : Ends) : RS → Prop
  | .nx e => NxS g φ e D.nx
  | .rt d e => ∀ v σ H, SJ g φ.b H σ e ((v, d) :: φ.F) → Pins φ.pv σ → D.rt v H
  | .bk e => NxS g φ e D.bk
  | .ct e => NxS g φ e D.ct
  | .exc c fs e => XS g W φ c fs e
  | .bad => False
end
def rdS (g : Glb) (W : L2.WX) (B : List Nat) (m : MS) : TS := fun D σ H => ∃ φ : Fr, φ.pv.map (·.1) = B ∧ ∃ env, SJ g φ.b H σ env φ.F ∧ Pins φ.pv σ ∧ PoS g W φ D (m env)
def SS (Γ : Cs) (sc : Scope) (B : List Nat) (st : Stmt) (m : MS) : Prop := ∀ X W, Good Γ sc X → Takes X W → X.fn = (fun _ => true) → PS X st (rdS Γ.g W B m)
def SSs (Γ : Cs) (sc : Scope) (B : List Nat) (st : List Stmt) (m : MS) : Prop := ∀ X W, Good Γ sc X → Takes X W → X.fn = (fun _ => true) → PSs X st (rdS Γ.g W B m)
theorem PS.imp {X : Cx} {e : Stmt} {t t' : TS} (h : PS X e t) (i : ∀ D σ H, t' D σ H → t D σ H) : PS X e t' := ⟨fun pins s σ H Q I hw => h.run pins s σ H Q I (i Q σ H hw)⟩
theorem PSs.imp {X : Cx} {e : List Stmt} {t t' : TS} (h : PSs X e t) (i : ∀ D σ H, t' D σ H → t D σ H) : PSs X e t' := ⟨fun pins s σ H Q I hw => h.run pins s σ H Q I (i Q σ H hw)⟩
theorem XS.xw {g : Glb} {W : L2.WX} {φ : Fr} {c : Str} {fs : List (Str × D)} {e : En} {σ : Sg} (h : XS g W φ c fs e) (hp : Pins φ.pv σ) : XW g φ.b W σ φ.F e c fs := fun C d H vfs h1 h2 h3 j => h σ C d H vfs h1 h2 h3 j hp

section
variable {Γ : Cs} {sc : Scope} {p pa pb : Bool} {B : List Nat} {e : Expr} {m : M D} {st : Stmt} {rest : List Stmt} {ms mr : MS} {pos pos' : Pos}
/-- the promise about an expression, from that about the statement -/
theorem PoE.ofS {g : Glb} {W : L2.WX} {φ : Fr} {D : Ends} {σ : Sg} {H : Hp} {Q : VK} {r : Rs TL.D} (k : TL.D → En → RS) (hp : Pins φ.pv σ)
    (h : PoS g W φ D (r.s k))
    (go : ∀ d e v H', PoS g W φ D (k d e) → SJ g φ.b H' σ e ((v, d) :: φ.F) → (p = true → Ext H H') → Q v H') : PoE g φ.b p W σ H φ.F Q r := by
  cases r with
  | ok d e => exact fun v H' j x => go d e v H' h j x
  | exc c fs e => exact XS.xw h hp
  | bad => exact h
theorem PoT.ofS {g : Glb} {W : L2.WX} {φ : Fr} {D : Ends} {σ : Sg} {H : Hp} {Q : Bool → Hp → Prop} {r : Rs Bool} (k : Bool → En → RS) (hp : Pins φ.pv σ)
    (h : PoS g W φ D (r.s k))
    (go : ∀ d e H', PoS g W φ D (k d e) → SJ g φ.b H' σ e φ.F → (p = true → Ext H H') → Q d H') : PoT g φ.b p W σ H φ.F Q r := by
  cases r with
  | ok d e => exact fun H' j x => go d e H' h j x
  | exc c fs e => exact XS.xw h hp
  | bad => exact h
/-! pass, return, an expression -/
def sPass : MS := fun e => .nx e
theorem SS_pass : SS Γ sc B (.Pass pos) sPass := fun X W G T _ => PS.imp ps_pass fun D σ H ⟨φ, _, env, j, hp, h⟩ => h σ H j hp
theorem SS_continue : SS Γ sc B (.Continue pos) (fun e => .ct e) := fun X W G T _ => PS.imp ps_continue fun D σ H ⟨φ, _, env, j, hp, h⟩ => h σ H j hp
theorem SS_break : SS Γ sc B (.Break pos) (fun e => .bk e) := fun X W G T _ => PS.imp ps_break fun D σ H ⟨φ, _, env, j, hp, h⟩ => h σ H j hp
def sRet (m : M D) : MS := fun e => (m e).s fun d e => .rt d e
theorem SS_ret (h : SE Γ sc p e m) : SS Γ sc B (.Return (some e) pos) (sRet m) := fun X W G T _ => PS.imp (ps_ret (h X W G T)) fun D σ H ⟨φ, _, env, j, hp, h⟩ => by
  exact ⟨φ.b, env, φ.F, j, PoE.ofS (fun d e => .rt d e) hp h fun d e v H' h j x => h v σ H' j hp⟩
def sRetN : MS := fun e => .rt .non e
theorem SS_retN : SS Γ sc B (.Return none pos) sRetN := fun X W G T _ => PS.imp ps_retN fun D σ H ⟨φ, _, env, j, hp, h⟩ => h .non σ H (j.add fun _ => .non) hp
def sDo (m : M D) : MS := fun e => (m e).s fun _ e => .nx e
theorem SS_do (h : SE Γ sc p e m) (hs : ∀ X : Cx, swapsWith e none pos.line X.env = pure false := by intro _; rfl) : SS Γ sc B (.Expr e pos) (sDo m) := fun X W G T _ => PS.imp (ps_expr (h X W G T) (hs X)) fun D σ H ⟨φ, _, env, j, hp, h⟩ => by
  exact ⟨φ.b, env, φ.F, j, PoE.ofS (fun _ e => .nx e) hp h fun d e v H' h j x => h σ H' j.drop hp⟩
/-! blocks -/
def sSeq (a b : MS) : MS := fun e => match a e with
  | .nx e => b e
  | r => r
theorem SSs_nil : SSs Γ sc B [] sPass := fun X W G T _ => PSs.imp pss_nil fun D σ H ⟨φ, _, env, j, hp, h⟩ => h σ H j hp
theorem SSs_one (h : SS Γ sc B st ms) : SSs Γ sc B [st] ms := fun X W G T hf => pss_one (h X W G T hf)
theorem SSs_cons (h : SS Γ sc B st ms) (hr : SSs Γ sc B rest mr) : SSs Γ sc B (st :: rest) (sSeq ms mr) := fun X W G T hf => PSs.imp (pss_cons (h X W G T hf) (hr X W G T hf)) fun D σ H ⟨φ, hB, env, j, hp, h⟩ => by
  refine ⟨φ, hB, env, j, hp, ?_⟩
  unfold sSeq at h
  cases q : ms env with
  | nx e =>
    rw [q] at h
    exact fun σ' H' j' hp' => ⟨φ, hB, e, j', hp', h⟩
  | rt d e => rw [q] at h; exact h
  | bk e => rw [q] at h; exact h
  | ct e => rw [q] at h; exact h
  | exc c fs e => rw [q] at h; exact h
  | bad => rw [q] at h; exact h
def sIf (t : M Bool) (a b : MS) : MS := fun e => (t e).s fun c e => if c = true then a e else b e
theorem SS_if {c : Expr} {xs ys : List Stmt} {t : M Bool} {ma mb : MS} (hc : ST Γ sc p c t) (ha : SSs Γ sc B xs ma) (hb : SSs Γ sc B ys mb) : SS Γ sc B (.If c xs ys pos) (sIf t ma mb) := fun X W G T hf =>
  PS.imp (ps_if (hc X W G T) (ha X W G T hf) (hb X W G T hf)) fun D σ H ⟨φ, hB, env, j, hp, h⟩ => by
    refine ⟨φ.b, env, φ.F, j, PoT.ofS (fun c e => if c = true then ma e else mb e) hp h fun c e H' h j x => ?_⟩
    cases c with
    | true => exact ⟨φ, hB, e, j, hp, h⟩
    | false => exact ⟨φ, hB, e, j, hp, h⟩
theorem env_sc {env : Env} {sc : Scope} (h : env.scope = sc) : env = { env with scope := sc } := by subst h; rfl
/-! name = value -/
def setE (i : Nat) (d : TL.D) (e : En) : RS := if i < e.length then .nx (e.set i (some d)) else .bad
def sSet (i : Nat) (m : M D) : MS := fun e => (m e).s fun d e => setE i d e
theorem pins_set {pv : List (Nat × V)} {σ : Sg} {i : Nat} {v : V} (hB : pv.map (·.1) = B) (hi : i ∉ B) (hp : Pins pv σ) : Pins pv (σ.set i (some v)) := fun q m => by
  have ne : i ≠ q.1 := fun e => hi (by rw [← hB, e]; exact List.mem_map_of_mem m)
  rw [List.getElem?_set_ne ne]
  exact hp q m
theorem SS_set (i : Nat) {x : Str} (h : SE Γ sc p e m) (hN : Γ.N[i]? = some x) (hx : Loc sc x) (hi : i ∉ B := by decide) (hs : ∀ env : Env, swapsWith e (some (.Name x pos')) pos.line { env with scope := sc } = pure false := by intro _; rfl) : SS Γ sc B (.Assign [.Name x pos'] e pos) (sSet i m) := fun X W G T hf =>
  PS.imp (ps_set (by rw [G.N]; exact G.nd) (by rw [G.N]; exact hN) (by rw [G.sc]; exact hx) (h X W G T) (by rw [env_sc G.sc]; exact hs X.env) (.inl (by rw [hf]))) fun D σ H ⟨φ, hB, env, j, hp, h⟩ => by
    refine ⟨φ.b, env, φ.F, j, PoE.ofS (fun d e => setE i d e) hp h fun d e v H' h j x => ?_⟩
    unfold setE at h
    by_cases l : i < e.length
    · rw [if_pos l] at h
      exact h _ _ (j.store l) (pins_set hB hi hp)
    · rw [if_neg l] at h
      exact h.elim
/-! a, b = e -/
/-- the items stored one after another (frozen parts of what is unpacked) -/
def setAll : List Nat → List TL.D → En → RS
  | [], [], e => .nx e
  | i :: is, d :: ds, e => if i < e.length then setAll is ds (e.set i (some d)) else .bad
  | _, _, _ => .bad
/-- plain local names, with their places -/
inductive Tgs (Γ : Cs) (sc : Scope) (B : List Nat) : List Expr → List Nat → Prop
  | nil : Tgs Γ sc B [] []
  | cons {i : Nat} {x : Str} {q : Pos} {es : List Expr} {is : List Nat} (hN : Γ.N[i]? = some x) (hx : Loc sc x) (hi : i ∉ B) (r : Tgs Γ sc B es is) : Tgs Γ sc B (.Name x q :: es) (i :: is)
def gSet : List Nat → TGs
  | [] => gNil
  | i :: is => gCons (gName i) (gSet is)
theorem Tgs.pgs {es : List Expr} {is : List Nat} (t : Tgs Γ sc B es is) {X : Cx} (G : Good Γ sc X) (hf : X.fn = fun _ => true) : PGs X es (gSet is) := by
  induction t with
  | nil => exact pgs_nil
  | cons hN hx hi r ih => exact pgs_cons (pg_name (by rw [G.N]; exact G.nd) (by rw [G.N]; exact hN) (by rw [G.sc]; exact hx) (.inl (by rw [hf]))) ih rfl
theorem Tgs.run {es : List Expr} {is : List Nat} (t : Tgs Γ sc B es is) {W : L2.WX} {φ : Fr} (hB : φ.pv.map (·.1) = B) {D : Ends} : ∀ {vs : List V} {ds : List TL.D} {env : En} {σ : Sg} {H : Hp}, vs.length = ds.length → SJ Γ.g φ.b H σ env (vs.zip ds ++ φ.F) → Pins φ.pv σ → PoS Γ.g W φ D (setAll is ds env) → gSet is vs σ H D.nx := by
  induction t with
  | nil =>
    intro vs ds env σ H l j hp h
    cases ds with
    | nil =>
      obtain rfl := List.eq_nil_of_length_eq_zero l
      exact ⟨rfl, h σ H j hp⟩
    | cons d ds => exact h.elim
  | @cons i x q es is hN hx hi r ih =>
    intro vs ds env σ H l j hp h
    cases ds with
    | nil => exact h.elim
    | cons d ds =>
      cases vs with
      | nil => cases l
      | cons v vs =>
        have h' : PoS Γ.g W φ D (if i < env.length then setAll is ds (env.set i (some d)) else .bad) := h
        by_cases k : i < env.length
        · rw [if_pos k] at h'
          exact ⟨v, vs, rfl, ih (Nat.succ.inj l) (SJ.store (F := vs.zip ds ++ φ.F) k j) (pins_set hB hi hp) h'⟩
        · rw [if_neg k] at h'
          exact h'.elim
def unpK (is : List Nat) (d : D) (e : En) : RS := match d with
  | .tup ds => if ds.length = is.length then setAll is ds e else .bad
  | _ => .bad
def sUnp (is : List Nat) (m : M D) : MS := fun e => (m e).s (unpK is)
theorem gSet_len {is : List Nat} : (is.map fun _ => ()).length = is.length := List.length_map _
theorem Tgs.len {es : List Expr} {is : List Nat} (t : Tgs Γ sc B es is) : es.length = is.length := by
  induction t with
  | nil => rfl
  | cons _ _ _ _ ih => exact congrArg Nat.succ ih
theorem SS_unp {es : List Expr} {is : List Nat} {kk : Nat} {q : Pos} (t : Tgs Γ sc B es is) (h : SE Γ sc p e m) (n : Nat) (hn : ∀ X : Cx, (assignEach es X.env).length = n := by intro _; rfl) (hl : is.length = n := by rfl)
    (hst : ∀ X : Cx, (assignEach es X.env).findIdx? (·.1) = none := by intro _; rfl) (hs : ∀ env : Env, swapsWithSole [.Tuple es kk q] e pos.line { env with scope := sc } = pure false := by intro _; rfl) (hw : ∀ env : Env, swappedStores [.Tuple es kk q] e { env with scope := sc } = pure none := by intro _; rfl)
    (h1 : ∀ X : Cx, (assignEach [.Tuple es kk q] X.env).map (·.2) = [assign (.Tuple es kk q) X.env] := by intro _; rfl) : SS Γ sc B (.Assign [.Tuple es kk q] e pos) (sUnp is m) := fun X W G T hf =>
  PS.imp (ps_asg (h X W G T) (pg_tup G.calm (t.pgs G hf) (hn X) (hst X)) (by rw [env_sc G.sc]; exact hs X.env) (by rw [env_sc G.sc]; exact hw X.env) (h1 X)) fun D σ H ⟨φ, hB, env, j, hp, h⟩ => by
    refine ⟨φ.b, env, φ.F, j, PoE.ofS (unpK is) hp h fun d e v H' h j x => ?_⟩
    cases d with
    | tup ds =>
      unfold unpK at h
      dsimp only at h
      by_cases l : ds.length = is.length
      · rw [if_pos l] at h
        obtain ⟨a, vs, rfl, h2, l2, j2⟩ := j.readT
        exact ⟨a, vs, rfl, by rw [G.K]; exact h2, by rw [l2, l, hl], t.run hB l2 j2 hp h⟩
      · rw [if_neg l] at h
        exact h.elim
    | _ => exact h.elim
/-! a, b = x, y -/
def parK (i k : Nat) (ds : List D) (e : En) : RS := match ds with
  | [x, y] => if i < e.length ∧ k < e.length then .nx ((e.set i (some x)).set k (some y)) else .bad
  | _ => .bad
def sPar (i k : Nat) (ms : M (List D)) : MS := fun e => (ms e).s (parK i k)
theorem SS_par {i k : Nat} {x y : Str} {a c : Expr} {msl : M (List TL.D)} {px py pt : Pos} {kt k2 pt2} (ha : SA Γ sc p [a, c] msl) (hi : Γ.N[i]? = some x) (hk : Γ.N[k]? = some y) (hik : i ≠ k) (hx : sc.names.lookup x = some .local) (hy : sc.names.lookup y = some .local) (hiB : i ∉ B := by decide) (hkB : k ∉ B := by decide)
    (hw : ∀ env : Env, swappedStores [.Tuple [.Name x px, .Name y py] kt pt] (.Tuple [a, c] k2 pt2) { env with scope := sc } = pure (some [x, y]) := by intro _; rfl) (hs : ∀ env : Env, swapsWithSole [.Tuple [.Name x px, .Name y py] kt pt] (.Tuple [a, c] k2 pt2) pos.line { env with scope := sc } = pure false := by intro _; rfl) :
    SS Γ sc B (.Assign [.Tuple [.Name x px, .Name y py] kt pt] (.Tuple [a, c] k2 pt2) pos) (sPar i k msl) := fun X W G T hf =>
  PS.imp (ps_par G.calm (by rw [G.N]; exact G.nd) (by rw [G.N]; exact hi) (by rw [G.N]; exact hk) hik (by rw [G.sc]; exact hx) (by rw [G.sc]; exact hy) (ha X W G T) (by rw [env_sc G.sc]; exact hw X.env) (by rw [env_sc G.sc]; exact hs X.env)) fun D σ H ⟨φ, hB, env, j, hp, h⟩ => by
    refine ⟨φ.b, env, φ.F, j, ?_⟩
    unfold sPar at h
    cases q : msl env with
    | ok ds e =>
      rw [q] at h
      intro vs H' l j' x'
      have h' : PoS Γ.g W φ D (parK i k ds e) := h
      match ds, vs, l with
      | [d1, d2], [v1, v2], _ =>
        unfold parK at h'
        dsimp only at h'
        by_cases hl : i < e.length ∧ k < e.length
        · rw [if_pos hl] at h'
          have j1 : SJ Γ.g φ.b H' (σ.set i (some v1)) (e.set i (some d1)) ((v2, d2) :: φ.F) := SJ.store hl.1 j'
          have j2 := SJ.store (i := k) (by rw [List.length_set]; exact hl.2) j1
          exact ⟨v1, v2, rfl, h' _ _ j2 (pins_set hB hkB (pins_set hB hiB hp))⟩
        · rw [if_neg hl] at h'
          exact h'.elim
      | [], _, _ => exact h'.elim
      | [_], _, _ => exact h'.elim
      | _ :: _ :: _ :: _, _, _ => exact h'.elim
    | exc c fs e => rw [q] at h; exact XS.xw h hp
    | bad => rw [q] at h; exact h
/-! while -/
/-- so often at most -/
def RS.turn (r : RS) (k : MS) : RS := match r with
  | .nx e => k e
  | .ct e => k e
  | .bk e => .nx e
  | .rt d e => .rt d e
  | .exc c fs e => .exc c fs e
  | .bad => .bad
def loopW (t : M Bool) (body : MS) : Nat → MS
  | 0 => fun _ => .bad
  | n + 1 => fun e => (t e).s fun c e => if c = true then (body e).turn (loopW t body n) else .nx e
theorem SS_while {c : Expr} {xs : List Stmt} {t : M Bool} {body : MS} {n : Nat} (hc : ST Γ sc p c t) (hb : SSs Γ sc B xs body) : SS Γ sc B (.While c xs [] pos) (loopW t body n) := fun X W G T hf =>
  PS.imp (ps_while G.pass (hc X W G T) (hb X W G T hf)) fun D σ H ⟨φ, hB, env, j, hp, h⟩ => by
    refine ⟨fun k σ H => ∃ env, SJ Γ.g φ.b H σ env φ.F ∧ Pins φ.pv σ ∧ PoS Γ.g W φ D (loopW t body k env), ⟨n, env, j, hp, h⟩, ?_⟩
    rintro k σ1 H1 ⟨env1, j1, hp1, h1⟩
    cases k with
    | zero => exact h1.elim
    | succ k =>
      refine ⟨φ.b, env1, φ.F, j1, PoT.ofS (fun c e => if c = true then (body e).turn (loopW t body k) else .nx e) hp1 h1 fun c e H2 h2 j2 x2 => ?_⟩
      cases c with
      | false => exact h2 σ1 H2 j2 hp1
      | true =>
        refine ⟨fun σ' H' => ∃ env, SJ Γ.g φ.b H' σ' env φ.F ∧ Pins φ.pv σ' ∧ PoS Γ.g W φ D (loopW t body k env), fun σ' H' q => ⟨k, Nat.lt_succ_self k, q⟩, φ, hB, e, j2, hp1, ?_⟩
        have h3 : PoS Γ.g W φ D ((body e).turn (loopW t body k)) := h2
        cases q : body e with
        | nx e' => rw [q] at h3; exact fun σ' H' j' hp' => ⟨e', j', hp', h3⟩
        | ct e' => rw [q] at h3; exact fun σ' H' j' hp' => ⟨e', j', hp', h3⟩
        | bk e' => rw [q] at h3; exact h3
        | rt d e' => rw [q] at h3; exact h3
        | exc c fs e' => rw [q] at h3; exact h3
        | bad => rw [q] at h3; exact h3
end
end TL
end

-- text TL13
section
set_option Elab.async false
set_option linter.all false
set_option maxRecDepth 100000
set_option maxHeartbeats 4000000
namespace TL
open PySem PySem.Spec PyProof.Rows L2

/-! ### what a def promises -/
/-- the values of the parameters that are lent (md: which) -/
def bor {α : Type} : List Bool → List α → List α
  | true :: md, v :: vs => v :: bor md vs
  | false :: md, _ :: vs => bor md vs
  | _, _ => []
def PoF (g : Glb) (b : Bs) (ps : Prs) (ws : List V) (Q : VK) (E : XK) : CR → Prop
  | .ok d outs => ws.length = outs.length ∧ ∀ v H', JJ g b H' ((v, d) :: (ws.zip outs ++ ps)) → Q v H'
  | .exc c fs outs => ws.length = outs.length ∧ ∀ (C d : Addr) (H' : Hp) (vfs : List (Str × V)), g.cls c = some C → H' d = some (.xd vfs) → vfs.map (·.1) = fs.map (·.1) →
      JJ g b H' ((vfs.map (·.2)).zip (fs.map (·.2)) ++ (ws.zip outs ++ ps)) → E (.ref C) (some d) H'
  | .bad => False
def spF (g : Glb) (md : List Bool) (f : List D → CR) : Sp := fun vs H Q E => vs.length = md.length ∧ ∃ b ds ps, vs.length = ds.length ∧ JJ g b H (vs.zip ds ++ ps) ∧ PoF g b ps (bor md vs) Q E (f ds)
/-- the places of the parameters that are lent -/
def borIx : List Bool → Nat → List Nat
  | true :: md, i => i :: borIx md (i + 1)
  | false :: md, i => borIx md (i + 1)
  | [], _ => []
def outs (B : List Nat) (e : En) : List D := B.map fun i => ((e[i]?).join).getD .junk
def RS.cr (B : List Nat) : RS → CR
  | .nx e => .ok .non (outs B e)
  | .rt d e => .ok d (outs B e)
  | .exc c fs e => .exc c fs (outs B e)
  | _ => .bad
/-- the behaviour of a def of n names -/
def runF (n : Nat) (B : List Nat) (m : MS) (ds : List D) : CR := (m (ds.map some ++ List.replicate (n - ds.length) none)).cr B

theorem sl_start : ∀ {vs : List V} {ds : List D} (n : Nat), vs.length = ds.length → Sl (vs.map some ++ List.replicate n none) (ds.map some ++ List.replicate n none) (vs.zip ds)
  | [], [], n, _ => by
    induction n with
    | zero => exact Sl.nil
    | succ n ih => exact Sl.no ih
  | v :: vs, d :: ds, n, h => Sl.yes (sl_start n (Nat.succ.inj h))
  | [], _ :: _, _, h => nomatch h
  | _ :: _, [], _, h => nomatch h
section
variable {g : Glb} {b : Bs} {H : Hp} {σ : Sg} {env : En} {F : Prs}
theorem SJ.jj (j : SJ g b H σ env F) : JJ g b H F := let ⟨_, _, j⟩ := j; JJ.dropL j
/-- the lent names' trees, taken out -/
theorem SJ.outs : ∀ {pv : List (Nat × V)} {env : En} {F : Prs}, (pv.map (·.1)).Nodup → SJ g b H σ env F → Pins pv σ → ∃ env', (∀ i, i ∉ pv.map (·.1) → env'[i]? = env[i]?) ∧ SJ g b H σ env' ((pv.map (·.2)).zip (TL.outs (pv.map (·.1)) env) ++ F)
  | [], env, F, _, j, _ => ⟨env, fun _ _ => rfl, j⟩
  | (i, v) :: pv, env, F, nd, j, hp => by
    have nd' : i ∉ pv.map (·.1) ∧ (pv.map (·.1)).Nodup := List.nodup_cons.mp nd
    obtain ⟨env1, h1, j1⟩ := SJ.outs nd'.2 j fun q m => hp q (List.mem_cons_of_mem _ m)
    have hv : σ[i]? = some (some v) := hp (i, v) List.mem_cons_self
    have e1 := h1 i nd'.1
    cases q : env[i]? with
    | none =>
      refine ⟨env1, fun k nk => h1 k fun m => nk (List.mem_cons_of_mem _ m), ?_⟩
      show SJ g b H σ env1 ((v, ((env[i]?).join).getD .junk) :: ((pv.map (·.2)).zip (TL.outs (pv.map (·.1)) env) ++ F))
      rw [q]
      exact j1.add fun _ => .junk
    | some o =>
      cases o with
      | none =>
        refine ⟨env1, fun k nk => h1 k fun m => nk (List.mem_cons_of_mem _ m), ?_⟩
        show SJ g b H σ env1 ((v, ((env[i]?).join).getD .junk) :: ((pv.map (·.2)).zip (TL.outs (pv.map (·.1)) env) ++ F))
        rw [q]
        exact j1.add fun _ => .junk
      | some d =>
        obtain ⟨v', h2, j2⟩ := j1.get (i := i) (d := d) (e1.trans q)
        obtain rfl : v = v' := by
          rw [hv] at h2
          exact Option.some.inj (Option.some.inj h2)
        refine ⟨env1.set i none, fun k nk => ?_, ?_⟩
        · have ne : i ≠ k := fun z => nk (by rw [← z]; exact List.mem_cons_self)
          rw [List.getElem?_set_ne ne]
          exact h1 k fun m => nk (List.mem_cons_of_mem _ m)
        · show SJ g b H σ (env1.set i none) ((v, ((env[i]?).join).getD .junk) :: ((pv.map (·.2)).zip (TL.outs (pv.map (·.1)) env) ++ F))
          rw [q]
          exact j2
end
theorem borIx_ge : ∀ {md : List Bool} {i k : Nat}, k ∈ borIx md i → i ≤ k
  | [], _, _, h => nomatch h
  | true :: md, i, k, h => by
    rcases List.mem_cons.mp h with rfl | h
    · exact Nat.le_refl _
    · exact Nat.le_of_succ_le (borIx_ge h)
  | false :: md, i, k, h => Nat.le_of_succ_le (borIx_ge (md := md) h)
theorem borIx_nodup : ∀ (md : List Bool) (i : Nat), (borIx md i).Nodup
  | [], _ => List.nodup_nil
  | true :: md, i => List.nodup_cons.mpr ⟨fun h => Nat.not_succ_le_self i (borIx_ge h), borIx_nodup md (i + 1)⟩
  | false :: md, i => borIx_nodup md (i + 1)
theorem bor_len : ∀ {md : List Bool} {vs : List V} (i : Nat), vs.length = md.length → (bor md vs).length = (borIx md i).length
  | [], [], _, _ => rfl
  | true :: md, v :: vs, i, h => congrArg Nat.succ (bor_len (i + 1) (Nat.succ.inj h))
  | false :: md, v :: vs, i, h => bor_len (md := md) (vs := vs) (i + 1) (Nat.succ.inj h)
  | [], _ :: _, _, h => nomatch h
  | true :: _, [], _, h => nomatch h
  | false :: _, [], _, h => nomatch h
theorem pins_start : ∀ {md : List Bool} {vs ws : List V} {r : List (Option V)}, vs.length = md.length → Pins ((borIx md ws.length).zip (bor md vs)) (ws.map some ++ (vs.map some ++ r))
  | [], [], _, _, _ => fun q m => nomatch m
  | true :: md, v :: vs, ws, r, h => fun q m => by
    have m' : q ∈ (ws.length, v) :: (borIx md (ws.length + 1)).zip (bor md vs) := m
    rcases List.mem_cons.mp m' with rfl | m'
    · show (ws.map some ++ (some v :: (vs.map some ++ r)))[ws.length]? = _
      rw [List.getElem?_append_right (by rw [List.length_map]; exact Nat.le_refl _), List.length_map, Nat.sub_self]
      rfl
    · have ih := pins_start (md := md) (vs := vs) (ws := ws ++ [v]) (r := r) (Nat.succ.inj h) q (by rw [List.length_append]; exact m')
      rw [List.map_append, List.append_assoc] at ih
      exact ih
  | false :: md, v :: vs, ws, r, h => fun q m => by
    have ih := pins_start (md := md) (vs := vs) (ws := ws ++ [v]) (r := r) (Nat.succ.inj h) q (by rw [List.length_append]; exact m)
    rw [List.map_append, List.append_assoc] at ih
    exact ih
  | [], _ :: _, _, _, h => nomatch h
  | true :: _, [], _, _, h => nomatch h
  | false :: _, [], _, _, h => nomatch h
theorem zip_fst {α β : Type} : ∀ {xs : List α} {ys : List β}, xs.length = ys.length → (xs.zip ys).map (·.1) = xs
  | [], [], _ => rfl
  | _ :: _, _ :: _, h => by
    rw [List.zip_cons_cons, List.map_cons, zip_fst (Nat.succ.inj h)]
  | [], _ :: _, h => nomatch h
  | _ :: _, [], h => nomatch h

/-- a def keeps its promise: from its body -/
theorem fn_ok {Γ : Cs} {x qual : Str} {st : Stmt} {f : Addr} {fd : FuncData} {ps : List Str} {md : List Bool} {m : MS} (F : Fun Γ.g.K x qual st f fd) (S : FnScope Γ.N ps (defScope st)) (hl : ps.length = md.length) (hcd : Γ.cd = none)
    (body : SSs Γ (defScope st) (borIx md 0) (defBody st) m) : FnOk Γ.P Γ.w Γ.g.K Γ.mg Γ.base (L2.CX Γ.P Γ.w) (Γ.k + 1) f fd ps (spF Γ.g md (runF Γ.N.length (borIx md 0) m)) :=
  L2.Fun.okX F S (fun vs H Q E h => h.1.trans hl.symm) fun cdv A outer s H vs Q E hr hsp => by
    have G : Good Γ (defScope st) (cxOf (L2.CX Γ.P Γ.w) Γ.P Γ.w Γ.g.K Γ.mg Γ.base Γ.N qual (defScope st) f cdv A outer s H E) :=
      ⟨rfl, rfl, rfl, rfl, rfl, rfl, S.nd, rfl, rfl, hr, PassesOwn.leaving, fun c q h => by rw [hcd] at h; cases h⟩
    refine ⟨_, body _ (fun cls d _ H => E cls d H) G (takes_of rfl rfl rfl rfl) rfl, ?_⟩
    obtain ⟨h1, b, ds, qs, h2, j, h⟩ := hsp
    have hz : (borIx md 0).length = (bor md vs).length := (bor_len 0 h1).symm
    have hpv : ((borIx md 0).zip (bor md vs)).map (·.1) = borIx md 0 := zip_fst hz
    have hpw : ((borIx md 0).zip (bor md vs)).map (·.2) = bor md vs := zip_snd hz
    have pin : Pins ((borIx md 0).zip (bor md vs)) (start Γ.N vs) := pins_start (ws := []) h1
    refine ⟨⟨b, qs, (borIx md 0).zip (bor md vs)⟩, hpv, ds.map some ++ List.replicate (Γ.N.length - ds.length) none, ⟨vs.zip ds, ?_, j⟩, pin, ?_⟩
    · unfold L2.start
      rw [h2]
      exact sl_start _ h2
    · -- the end
      have fin : ∀ {e : En} {σ : Sg} {H' : Hp} {F' : Prs}, SJ Γ.g b H' σ e (F' ++ qs) → Pins ((borIx md 0).zip (bor md vs)) σ → JJ Γ.g b H' (F' ++ ((bor md vs).zip (outs (borIx md 0) e) ++ qs)) := fun {e σ H' F'} j hp => by
        obtain ⟨env', _, j2⟩ := SJ.outs (by rw [hpv]; exact borIx_nodup md 0) j hp
        rw [hpv, hpw] at j2
        exact j2.jj.perm zapp_perm
      have lo : ∀ e : En, (bor md vs).length = (outs (borIx md 0) e).length := fun e => by
        unfold outs
        rw [List.length_map]
        exact hz.symm
      unfold runF at h
      cases q : m (ds.map some ++ List.replicate (Γ.N.length - ds.length) none) with
      | nx e =>
        rw [q] at h
        exact fun σ H' j hp => h.2 .non H' (fin (F' := [(.non, .non)]) (j.add fun _ => .non) hp)
      | rt d e =>
        rw [q] at h
        exact fun v σ H' j hp => h.2 v H' (fin (F' := [(v, d)]) j hp)
      | bk e => rw [q] at h; exact h.elim
      | ct e => rw [q] at h; exact h.elim
      | exc c fs e =>
        rw [q] at h
        exact fun σ C d H' vfs a1 a2 a3 j hp => h.2 C d H' vfs a1 a2 a3 (fin j hp)
      | bad => rw [q] at h; exact h

/-! ### calls -/
/-- the arguments that are lent by name: their places -/
inductive Slots (σ : Sg) : List (Option Nat) → List V → Prop
  | nil : Slots σ [] []
  | no {bs : List (Option Nat)} {v : V} {vs : List V} (r : Slots σ bs vs) : Slots σ (none :: bs) (v :: vs)
  | yes {i : Nat} {bs : List (Option Nat)} {v : V} {vs : List V} (h : σ[i]? = some (some v)) (r : Slots σ bs vs) : Slots σ (some i :: bs) (v :: vs)
def putB : List Bool → List (Option Nat) → List D → En → Option En
  | false :: md, none :: bs, os, e => putB md bs os e
  | true :: md, none :: bs, _ :: os, e => putB md bs os e
  | true :: md, some i :: bs, o :: os, e => match e[i]? with
    | some none => putB md bs os (e.set i (some o))
    | _ => none
  | [], [], [], e => some e
  | _, _, _, _ => none
theorem putB_len {σ : Sg} : ∀ {md : List Bool} {bs : List (Option Nat)} {vs : List V} {os : List D} {e e' : En}, Slots σ bs vs → vs.length = md.length → TL.putB md bs os e = some e' → (bor md vs).length = os.length
  | [], [], [], [], _, _, .nil, _, _ => rfl
  | [], [], [], _ :: _, _, _, .nil, _, h => by simp [TL.putB] at h
  | false :: md, none :: bs, v :: vs, os, e, e', .no s, l, h => putB_len (md := md) s (Nat.succ.inj l) (show TL.putB md bs os e = some e' by simpa [TL.putB] using h)
  | true :: md, none :: bs, v :: vs, [], e, e', .no s, l, h => by simp [TL.putB] at h
  | true :: md, none :: bs, v :: vs, o :: os, e, e', .no s, l, h => congrArg Nat.succ (putB_len (md := md) s (Nat.succ.inj l) (show TL.putB md bs os e = some e' by simpa [TL.putB] using h))
  | false :: md, some i :: bs, v :: vs, os, e, e', .yes hi s, l, h => by simp [TL.putB] at h
  | true :: md, some i :: bs, v :: vs, [], e, e', .yes hi s, l, h => by simp [TL.putB] at h
  | true :: md, some i :: bs, v :: vs, o :: os, e, e', .yes hi s, l, h => by
    have h' : (match e[i]? with | some none => TL.putB md bs os (e.set i (some o)) | _ => none) = some e' := by simpa [TL.putB] using h
    split at h'
    · exact congrArg Nat.succ (putB_len (md := md) s (Nat.succ.inj l) h')
    · cases h'
theorem SJ.putB {g : Glb} {b : Bs} {H : Hp} {σ : Sg} {F : Prs} : ∀ {md : List Bool} {bs : List (Option Nat)} {vs : List V} {os : List D} {e e' : En}, Slots σ bs vs → TL.putB md bs os e = some e' → SJ g b H σ e ((bor md vs).zip os ++ F) → SJ g b H σ e' F
  | [], [], _, [], e, e', .nil, h, j => by
    obtain rfl : e = e' := Option.some.inj h
    exact j
  | false :: md, none :: bs, v :: vs, os, e, e', .no s, h, j => SJ.putB (md := md) s (show TL.putB md bs os e = some e' by simpa [TL.putB] using h) j
  | true :: md, none :: bs, v :: vs, o :: os, e, e', .no s, h, j => SJ.putB (md := md) s (show TL.putB md bs os e = some e' by simpa [TL.putB] using h) (SJ.drop (p := (v, o)) (F := (bor md vs).zip os ++ F) j)
  | true :: md, some i :: bs, v :: vs, o :: os, e, e', .yes hi s, h, j => by
    have h' : (match e[i]? with | some none => TL.putB md bs os (e.set i (some o)) | _ => none) = some e' := by simpa [TL.putB] using h
    cases q : e[i]? with
    | none => rw [q] at h'; cases h'
    | some x =>
      cases x with
      | some x => rw [q] at h'; cases h'
      | none =>
        rw [q] at h'
        exact SJ.putB (md := md) s h' (SJ.put (F := (bor md vs).zip os ++ F) q hi j)
/-- arguments, some of them lent -/
def PoB (g : Glb) (b : Bs) (p : Bool) (W : L2.WX) (σ : Sg) (H : Hp) (F : Prs) (bs : List (Option Nat)) (Q : List V → Hp → Prop) : Rs (List D) → Prop
  | .ok ds e => ∀ vs H', vs.length = ds.length → Slots σ bs vs → SJ g b H' σ e (vs.zip ds ++ F) → (p = true → Ext H H') → Q vs H'
  | .exc c fs e => XW g b W σ F e c fs
  | .bad => False
def rdB (g : Glb) (p : Bool) (W : L2.WX) (bs : List (Option Nat)) (m : M (List D)) : TA := fun σ H Q => ∃ b env F, SJ g b H σ env F ∧ PoB g b p W σ H F bs Q (m env)
def SB (Γ : Cs) (sc : Scope) (p : Bool) (es : List Expr) (bs : List (Option Nat)) (m : M (List D)) : Prop := ∀ X W, Good Γ sc X → Takes X W → PA X es (rdB Γ.g p W bs m)
section
variable {Γ : Cs} {sc : Scope} {p pa pb : Bool} {e : Expr} {es : List Expr} {bs : List (Option Nat)} {ma : M D} {ms : M (List D)} {pos : Pos}
theorem PoB.into {α : Type} {g : Glb} {b : Bs} {W : L2.WX} {σ : Sg} {H : Hp} {F : Prs} {r : Rs (List D)} {k : List D → En → Rs α} {Q : List V → Hp → Prop} (S : Rs α → Prop) (hx : ∀ c fs e, S (.exc c fs e) → XW g b W σ F e c fs) (hb : S .bad → False) (h : S (r.bind k))
    (go : ∀ ds e vs H', S (k ds e) → vs.length = ds.length → Slots σ bs vs → SJ g b H' σ e (vs.zip ds ++ F) → (p = true → Ext H H') → Q vs H') : PoB g b p W σ H F bs Q r := by
  cases r with
  | ok ds e => exact fun vs H' l s j x => go ds e vs H' h l s j x
  | exc c fs e => exact hx c fs e h
  | bad => exact hb h
theorem SB_nil : SB Γ sc true [] [] mNil := fun X W G T => PA.imp pa_nil fun σ H Q ⟨b, env, F, j, h⟩ => h [] H rfl .nil j fun _ => Ext.refl H
theorem SB_cons (ha : SE Γ sc pa e ma) (hr : SB Γ sc pb es bs ms) (hs : ∀ X : Cx, starEach (e :: es) X.env = (false, eval e X.env) :: starEach es X.env := by intro _; rfl) : SB Γ sc (pa && pb) (e :: es) (none :: bs) (mCons ma ms) := fun X W G T =>
  PA.imp (pa_cons (ha X W G T) (hr X W G T) (hs X)) fun σ H Q ⟨b, env, F, j, h⟩ => ⟨b, env, F, j, PoE.into (PoB Γ.g b (pa && pb) W σ H F (none :: bs) Q) (fun _ _ _ h => h) (fun h => h) h fun dx e1 x H1 h j1 x1 =>
    ⟨b, e1, (x, dx) :: F, j1, PoB.into (PoB Γ.g b (pa && pb) W σ H F (none :: bs) Q) (fun _ _ _ h => XW.more h) (fun h => h) h fun ds e2 vs H2 h l s j2 x2 =>
      h (x :: vs) H2 (congrArg Nat.succ l) (.no s) (j2.perm List.perm_middle) (ext_and x1 x2)⟩⟩
/-- a name that is lent -/
theorem SB_lend (i : Nat) {x : Str} (hr : SB Γ sc pb es bs ms) (hN : Γ.N[i]? = some x) (hv : Vis sc x) (hd : (x == ("__debug__" : Str)) = false := by decide) (hcd : (x == ("__classdict__" : Str)) = false := by decide)
    (hs : ∀ X : Cx, starEach (.Name x pos :: es) X.env = (false, eval (.Name x pos) X.env) :: starEach es X.env := by intro _; rfl) : SB Γ sc pb (.Name x pos :: es) (some i :: bs) (mCons (mMov i) ms) := fun X W G T =>
  PA.imp (pa_cons (pe_var (pos := pos) (by rw [G.N]; exact hN) (by rw [G.sc]; exact hv) hd hcd) (hr X W G T) (hs X)) fun σ H Q ⟨b, env, F, j, h⟩ => by
    unfold mCons mMov at h
    split at h
    · rename_i d q
      obtain ⟨v, h1, j1⟩ := j.get q
      refine ⟨v, h1, b, env.set i none, (v, d) :: F, j1, PoB.into (PoB Γ.g b pb W σ H F (some i :: bs) Q) (fun _ _ _ h => XW.more h) (fun h => h) h fun ds e2 vs H2 h l s j2 x2 => ?_⟩
      exact h (v :: vs) H2 (congrArg Nat.succ l) (.yes h1 s) (j2.perm List.perm_middle) x2
    · exact h.elim

/-- the callee runs; what leaves of exceptions is wanted at this σ -/
theorem run_fnS {X : Cx} {W : L2.WX} {k : Nat} {f : Addr} {fd : FuncData} {ps : List Str} {sp : Sp} {pins : List (Addr × Obj)} {σ : L2.St} {H : Hp} {s : Shared} {Q : VK} {us : List Value} {vs : List V} (F : FnOk X.prog X.w X.K X.mg X.base (L2.CX X.prog X.w) k f fd ps sp) (hr : Room k X.A) (hb : Binds X.K fd ps []) (T : Takes X W)
    (I : Inv X pins σ H s) (r : Vals vs us) (h : sp vs H Q (fun cls d H' => W cls d σ H')) : wpAny (model X.prog X.w) X.A (call (.ref f) us) (EP X pins σ Q) X.xe s := by
  have hl : (us ++ []).length = ps.length := by rw [List.append_nil, ← r.length]; exact F.len _ _ _ _ h
  have hb' := hb s us I.kIn hl
  rw [List.append_nil] at hb'
  refine wpAny_call (codeAny_mono (F.run X.A X.stack s H ⟨us, []⟩ us vs Q _ hr I.env0 hb' r h) fun r s' hq => ?_)
  cases r with
  | error e => exact T e s' (XE.of_call I (fun _ _ _ h => h) hq)
  | ok fl =>
    cases fl with
    | ret u => exact I.after hq
    | next => exact False.elim hq
    | brk => exact False.elim hq
    | cont => exact False.elim hq
/-- the def that x stands for, as Γ.C tells -/
structure Fk (Γ : Cs) (x : Str) (md : List Bool) : Prop where
  ex : ∃ (f : Addr) (fd : FuncData) (ps : List Str), FnOk Γ.P Γ.w Γ.g.K Γ.mg Γ.base (L2.CX Γ.P Γ.w) Γ.k f fd ps (spF Γ.g md (Γ.C x)) ∧ Γ.mg x = some (.ref f) ∧ PySem.W.keepIn Γ.g.K (.ref f) = true ∧ Binds Γ.g.K fd ps [] ∧ ps.length = md.length
/-- what comes back of a call -/
def CR.back (md : List Bool) (bs : List (Option Nat)) (e : En) : CR → Rs D
  | .ok d os => match putB md bs os e with
    | some e' => .ok d e'
    | none => .bad
  | .exc c fs os => match putB md bs os e with
    | some e' => .exc c fs e'
    | none => .bad
  | .bad => .bad
def mCall (f : List D → CR) (md : List Bool) (bs : List (Option Nat)) (ms : M (List D)) : M D := fun e => (ms e).bind fun ds e => (f ds).back md bs e
theorem back_sp {g : Glb} {b : Bs} {W : L2.WX} {σ : Sg} {H H1 : Hp} {F : Prs} {Q : VK} {md : List Bool} {e : En} {vs : List V} {ds : List D} {f : List D → CR} (h : PoE g b false W σ H F Q ((f ds).back md bs e)) (l : vs.length = ds.length) (lm : vs.length = md.length) (s : Slots σ bs vs) (j : SJ g b H1 σ e (vs.zip ds ++ F)) :
    spF g md f vs H1 Q (fun cls d H' => W cls d σ H') := by
  obtain ⟨ps, sl, jj⟩ := j
  refine ⟨lm, b, ds, ps ++ F, l, jj.perm zapp_perm, ?_⟩
  cases q : f ds with
  | ok d os =>
    rw [q] at h
    unfold CR.back at h
    dsimp only at h
    cases q2 : putB md bs os e with
    | none => rw [q2] at h; exact h.elim
    | some e' =>
      rw [q2] at h
      refine ⟨?_, fun v H' j' => h v H' ?_ (fun z => by cases z)⟩
      · exact putB_len s lm q2
      · have j2 : SJ g b H' σ e ((v, d) :: ((bor md vs).zip os ++ F)) := ⟨ps, sl, j'.perm (by
          have p1 : ((bor md vs).zip os ++ (ps ++ F)).Perm (ps ++ ((bor md vs).zip os ++ F)) := zapp_perm
          exact (p1.cons _).trans List.perm_middle.symm)⟩
        exact SJ.putB (F := (v, d) :: F) s q2 (j2.perm List.perm_middle.symm)
  | exc c fs os =>
    rw [q] at h
    unfold CR.back at h
    dsimp only at h
    cases q2 : putB md bs os e with
    | none => rw [q2] at h; exact h.elim
    | some e' =>
      rw [q2] at h
      refine ⟨putB_len s lm q2, fun C d H' vfs a1 a2 a3 j' => h C d H' vfs a1 a2 a3 ?_⟩
      have p1 : ((bor md vs).zip os ++ (ps ++ F)).Perm (ps ++ ((bor md vs).zip os ++ F)) := zapp_perm
      have j2 : SJ g b H' σ e ((vfs.map (·.2)).zip (fs.map (·.2)) ++ ((bor md vs).zip os ++ F)) := ⟨ps, sl, j'.perm ((p1.append_left _).trans zapp_perm)⟩
      exact SJ.putB (F := (vfs.map (·.2)).zip (fs.map (·.2)) ++ F) s q2 (j2.perm zapp_perm)
  | bad =>
    rw [q] at h
    exact h.elim
theorem rd_call {g : Glb} {W : L2.WX} {md : List Bool} {f : List D → CR} {σ : Sg} {H : Hp} {Q : VK} (hm : ∀ vs : List V, Slots σ bs vs → vs.length = md.length) (h : rdE g false W (mCall f md bs ms) σ H Q) : rdB g p W bs ms σ H (fun vs H1 => spF g md f vs H1 Q (fun cls d H' => W cls d σ H')) := by
  obtain ⟨b, env, F, j, h⟩ := h
  exact ⟨b, env, F, j, PoB.into (PoE g b false W σ H F Q) (fun _ _ _ h => h) (fun h => h) h fun ds e vs H1 h l s j1 x1 => back_sp h l (hm vs s) s j1⟩
theorem Slots.len {σ : Sg} {vs : List V} (s : Slots σ bs vs) : vs.length = bs.length := by
  induction s with
  | nil => rfl
  | no _ ih => exact congrArg Nat.succ ih
  | yes _ _ ih => exact congrArg Nat.succ ih
theorem E_call {x : Str} {md : List Bool} {pn : Pos} (hF : Fk Γ x md) (hg : sc.names.lookup x = some .globalImplicit) (ha : SB Γ sc p (e :: es) bs ms) (hl : bs.length = md.length := by rfl) (hdb : (x == ("__debug__" : Str)) = false := by decide)
    (he : ∀ X : Cx, starEach (e :: es) X.env = (false, eval e X.env) :: starEach es X.env := by intro _; rfl) (hpl : ∀ X : Cx, (backTo pos (starEach es X.env)).any (·.1) = false := by intro _; rfl) : SE Γ sc false (.Call (.Name x pn) (e :: es) [] pos) (mCall (Γ.C x) md bs ms) := fun X W G T => by
  obtain ⟨f, fd, ps, FO, hm, hk, hb, hlm⟩ := hF.ex
  refine ⟨fun pins s σ H Q I h => ?_⟩
  refine wpAny_Call_Name_kw (ld_glob I (gl_of hg G.sc) (by rw [G.mg]; exact hm) ?_ hdb)
  refine PySem.W.callWith_K (h₀ := X.base) I.ok.mod.kin (by rw [G.K]; exact hk) (thn ((ha X W G T).run pos pins s σ H _ I (rd_call (fun vs s => s.len.trans hl) h)) fun us s1 ⟨vs, H1, I1, r, q⟩ => ⟨I1.kIn, ?_⟩) (he X) (hpl X)
  exact run_fnS (by rw [G.prog, G.w, G.K, G.mg, G.base]; exact FO) G.room (by rw [G.K]; exact hb) T I1 r q
theorem E_call0 {x : Str} {pn : Pos} (hF : Fk Γ x []) (hg : sc.names.lookup x = some .globalImplicit) (hdb : (x == ("__debug__" : Str)) = false := by decide) : SE Γ sc false (.Call (.Name x pn) [] [] pos) (mCall (Γ.C x) [] [] mNil) := fun X W G T => by
  obtain ⟨f, fd, ps, FO, hm, hk, hb, hlm⟩ := hF.ex
  refine ⟨fun pins s σ H Q I h => ?_⟩
  refine wpAny_Call_Name_kw (ld_glob I (gl_of hg G.sc) (by rw [G.mg]; exact hm) ?_ hdb)
  obtain ⟨b, env, F, j, h⟩ := h
  refine PySem.W.callWith_K0 I.kIn (by rw [G.K]; exact hk) (run_fnS (vs := []) (us := []) (sp := spF Γ.g [] (Γ.C x)) (by rw [G.prog, G.w, G.K, G.mg, G.base]; exact FO) G.room (by rw [G.K]; exact hb) T I .nil ?_)
  exact back_sp (ds := []) (e := env) h rfl rfl .nil j
end
end TL
end

-- text TL14
section
set_option Elab.async false
set_option linter.all false
set_option maxRecDepth 100000
set_option maxHeartbeats 4000000
namespace TL
open PySem PySem.Spec PyProof.Rows L2

/-! ### targets -/
def rdG (g : Glb) (is : List Nat) (st : D → En → Option En) : TG := fun v σ H Q => ∃ b env F d e', SJ g b H σ env ((v, d) :: F) ∧ st d env = some e' ∧ ∀ σ', SJ g b H σ' e' F → σ'.length = σ.length → (∀ i, i ∉ is → σ'[i]? = σ[i]?) → Q σ' H
def SG (Γ : Cs) (sc : Scope) (fnv : Str → Bool) (tg : Expr) (is : List Nat) (st : D → En → Option En) : Prop := ∀ X, Good Γ sc X → X.fn = fnv → PG X tg (rdG Γ.g is st)
theorem PG.imp {X : Cx} {e : Expr} {t t' : TG} (h : PG X e t) (i : ∀ v σ H Q, t' v σ H Q → t v σ H Q) : PG X e t' := ⟨fun pins s σ H v u Q I r hw => h.run pins s σ H v u Q I r (i v σ H Q hw)⟩
def tgN (i : Nat) (d : D) (e : En) : Option En := if i < e.length then some (e.set i (some d)) else none
def tgAll : List Nat → List D → En → Option En
  | [], [], e => some e
  | i :: is, d :: ds, e => if i < e.length then tgAll is ds (e.set i (some d)) else none
  | _, _, _ => none
def tgT (is : List Nat) (d : D) (e : En) : Option En := match d with
  | .tup ds => if ds.length = is.length then tgAll is ds e else none
  | _ => none
section
variable {Γ : Cs} {sc : Scope} {fnv : Str → Bool} {pos : Pos}
theorem SG_name (i : Nat) {x : Str} (hN : Γ.N[i]? = some x) (hx : Loc sc x) (hf : fnv x = true ∨ sc.names.lookup x = some .local) : SG Γ sc fnv (.Name x pos) [i] (tgN i) := fun X G hfn =>
  PG.imp (pg_name (by rw [G.N]; exact G.nd) (by rw [G.N]; exact hN) (by rw [G.sc]; exact hx) (by rw [hfn, G.sc]; exact hf)) fun v σ H Q ⟨b, env, F, d, e', j, hd, h⟩ => by
    unfold tgN at hd
    by_cases l : i < env.length
    · rw [if_pos l] at hd
      obtain rfl := Option.some.inj hd
      exact h _ (j.store l) (List.length_set ..) fun k nk => List.getElem?_set_ne fun z => nk (by rw [z]; exact List.mem_singleton.mpr rfl)
    · rw [if_neg l] at hd; cases hd
inductive TgN (Γ : Cs) (sc : Scope) (fnv : Str → Bool) : List Expr → List Nat → Prop
  | nil : TgN Γ sc fnv [] []
  | cons {i : Nat} {x : Str} {q : Pos} {es : List Expr} {is : List Nat} (hN : Γ.N[i]? = some x) (hx : Loc sc x) (hf : fnv x = true ∨ sc.names.lookup x = some .local) (r : TgN Γ sc fnv es is) : TgN Γ sc fnv (.Name x q :: es) (i :: is)
theorem TgN.pgs {es : List Expr} {is : List Nat} (t : TgN Γ sc fnv es is) {X : Cx} (G : Good Γ sc X) (hfn : X.fn = fnv) : PGs X es (gSet is) := by
  induction t with
  | nil => exact pgs_nil
  | cons hN hx hf r ih => exact pgs_cons (pg_name (by rw [G.N]; exact G.nd) (by rw [G.N]; exact hN) (by rw [G.sc]; exact hx) (by rw [hfn, G.sc]; exact hf)) ih rfl
theorem TgN.run {es : List Expr} {is : List Nat} (t : TgN Γ sc fnv es is) {b : Bs} {F : Prs} {Q : L2.St → Hp → Prop} {σ0 : Sg} {I : List Nat} {e' : En} (hI : ∀ i ∈ is, i ∈ I) {H : Hp} (h : ∀ σ', SJ Γ.g b H σ' e' F → σ'.length = σ0.length → (∀ i, i ∉ I → σ'[i]? = σ0[i]?) → Q σ' H) :
    ∀ {vs : List V} {ds : List D} {env : En} {σ : Sg}, vs.length = ds.length → SJ Γ.g b H σ env (vs.zip ds ++ F) → tgAll is ds env = some e' → σ.length = σ0.length → (∀ i, i ∉ I → σ[i]? = σ0[i]?) → gSet is vs σ H Q := by
  induction t with
  | nil =>
    intro vs ds env σ l j hd hl hk
    cases ds with
    | nil =>
      obtain rfl := List.eq_nil_of_length_eq_zero l
      obtain rfl := Option.some.inj hd
      exact ⟨rfl, h σ j hl hk⟩
    | cons d ds => cases hd
  | @cons i x q es is hN hx hf r ih =>
    intro vs ds env σ l j hd hl hk
    cases ds with
    | nil => cases hd
    | cons d ds =>
      cases vs with
      | nil => cases l
      | cons v vs =>
        have hd' : (if i < env.length then tgAll is ds (env.set i (some d)) else none) = some e' := hd
        by_cases k : i < env.length
        · rw [if_pos k] at hd'
          refine ⟨v, vs, rfl, ih (fun k m => hI k (List.mem_cons_of_mem _ m)) (Nat.succ.inj l) (SJ.store (F := vs.zip ds ++ F) k j) hd' (by rw [List.length_set]; exact hl) fun k' nk => ?_⟩
          rw [List.getElem?_set_ne fun z => nk (by rw [← z]; exact hI i List.mem_cons_self)]
          exact hk k' nk
        · rw [if_neg k] at hd'; cases hd'
theorem TgN.len {es : List Expr} {is : List Nat} (t : TgN Γ sc fnv es is) : es.length = is.length := by
  induction t with
  | nil => rfl
  | cons _ _ _ _ ih => exact congrArg Nat.succ ih
theorem SG_tup {es : List Expr} {is : List Nat} {k : Nat} (t : TgN Γ sc fnv es is) (hn : ∀ X : Cx, (assignEach es X.env).length = is.length := by intro _; rfl) (hst : ∀ X : Cx, (assignEach es X.env).findIdx? (·.1) = none := by intro _; rfl) : SG Γ sc fnv (.Tuple es k pos) is (tgT is) := fun X G hfn =>
  PG.imp (pg_tup G.calm (t.pgs G hfn) (hn X) (hst X)) fun v σ H Q ⟨b, env, F, d, e', j, hd, h⟩ => by
    unfold tgT at hd
    split at hd
    · rename_i ds
      by_cases l : ds.length = is.length
      · rw [if_pos l] at hd
        obtain ⟨a, vs, rfl, h2, l2, j2⟩ := j.readT
        exact ⟨a, vs, rfl, by rw [G.K]; exact h2, l2.trans l, t.run (fun _ m => m) h l2 j2 hd rfl fun _ _ => rfl⟩
      · rw [if_neg l] at hd; cases hd
    · cases hd
end

/-! ### what is walked -/
/-- J walks the items ds while P stands -/
structure ItOf (g : Glb) (J : It) (P : Prs) (ds : List D) : Prop where
  go : ∀ b H σ env F i, SJ g b H σ env (P ++ F) → i < ds.length → J.go i H
  yld : ∀ b H σ env F i x H', SJ g b H σ env (P ++ F) → i < ds.length → J.yld i H x H' → ∃ d, ds[i]? = some d ∧ SJ g b H' σ env ((x, d) :: (P ++ F)) ∧ Ext H H'
  stop : ∀ b H σ env F i, SJ g b H σ env (P ++ F) → ds.length ≤ i → J.stop i H
def PoI (g : Glb) (b : Bs) (p : Bool) (W : L2.WX) (σ : Sg) (H : Hp) (F : Prs) (R : It → Hp → Prop) : Rs (List D) → Prop
  | .ok ds e => ∀ J P H', ItOf g J P ds → SJ g b H' σ e (P ++ F) → (p = true → Ext H H') → R J H'
  | .exc c fs e => XW g b W σ F e c fs
  | .bad => False
def rdI (g : Glb) (p : Bool) (W : L2.WX) (m : M (List D)) : TI := fun σ H R => ∃ b env F, SJ g b H σ env F ∧ PoI g b p W σ H F R (m env)
def SI (Γ : Cs) (sc : Scope) (p : Bool) (tg it : Expr) (m : M (List D)) : Prop := ∀ X W, Good Γ sc X → Takes X W → PI X tg it (rdI Γ.g p W m)
theorem PI.imp {X : Cx} {tg e : Expr} {t t' : TI} (h : PI X tg e t) (i : ∀ σ H Q, t' σ H Q → t σ H Q) : PI X tg e t' := ⟨fun pins s σ H Q I hw => h.run pins s σ H Q I (i σ H Q hw)⟩
theorem Itl_of {g : Glb} {v : V} {a : Addr} {o : Bool} {ds : List D} (ev : v = .ref a) (hf : isFrzL ds = true) : ItOf g (Itl g.K a) [(v, .lst o ds)] ds where
  go := fun b H σ env F i j l => by
    obtain ⟨a', vs, e, hs, hl, hg⟩ := Lk.lst (SJ.lkF (F := F) j)
    rw [ev] at e
    obtain rfl := V.ref.inj e
    exact ⟨vs, vs[i]'(by rw [hl]; exact l), hs, List.getElem?_eq_getElem _⟩
  yld := fun b H σ env F i x H' j l y => by
    obtain ⟨rfl, y⟩ := y
    obtain ⟨a', vs, e, hs, hl, hg⟩ := Lk.lst (SJ.lkF (F := F) j)
    rw [ev] at e
    obtain rfl := V.ref.inj e
    obtain ⟨u, h1, h2⟩ := hg i ds[i] (List.getElem?_eq_getElem l)
    obtain rfl : u = x := by
      have := y vs hs
      rw [h1] at this
      exact Option.some.inj this
    have fr : isFrz ds[i] = true := by
      have : ∀ (ds : List D), isFrzL ds = true → ∀ d ∈ ds, isFrz d = true := fun ds => by
        induction ds with
        | nil => intro _ d m; cases m
        | cons d ds ih =>
          intro h e m
          obtain ⟨h1, h2⟩ := Bool.and_eq_true_iff.mp (show (isFrz d && isFrzL ds) = true from h)
          rcases List.mem_cons.mp m with rfl | m
          · exact h1
          · exact ih h2 e m
      exact this ds hf _ (List.getElem_mem l)
    exact ⟨ds[i], List.getElem?_eq_getElem l, h2.own fr, Ext.refl _⟩
  stop := fun b H σ env F i j l => by
    obtain ⟨a', vs, e, hs, hl, hg⟩ := Lk.lst (SJ.lkF (F := F) j)
    rw [ev] at e
    obtain rfl := V.ref.inj e
    exact ⟨vs, hs, by rw [hl]; exact l⟩
theorem isFrzL_mem : ∀ {ds : List D}, isFrzL ds = true → ∀ d ∈ ds, isFrz d = true
  | [], _, d, m => nomatch m
  | x :: ds, h, d, m => by
    obtain ⟨h1, h2⟩ := Bool.and_eq_true_iff.mp (show (isFrz x && isFrzL ds) = true from h)
    rcases List.mem_cons.mp m with rfl | m
    · exact h1
    · exact isFrzL_mem h2 d m
theorem Itt_of {g : Glb} {v : V} {a : Addr} {ds : List D} (ev : v = .ref a) (hf : isFrzL ds = true) : ItOf g (Itt g.K a) [(v, .tup ds)] ds where
  go := fun b H σ env F i j l => by
    obtain ⟨a', vs, e, hs, hl, hg⟩ := Lk.tup (SJ.lkF (F := F) j)
    rw [ev] at e
    obtain rfl := V.ref.inj e
    exact ⟨vs, vs[i]'(by rw [hl]; exact l), hs, List.getElem?_eq_getElem _⟩
  yld := fun b H σ env F i x H' j l y => by
    obtain ⟨rfl, y⟩ := y
    obtain ⟨a', vs, e, hs, hl, hg⟩ := Lk.tup (SJ.lkF (F := F) j)
    rw [ev] at e
    obtain rfl := V.ref.inj e
    obtain ⟨u, h1, h2⟩ := hg i ds[i] (List.getElem?_eq_getElem l)
    obtain rfl : u = x := by
      have := y vs hs
      rw [h1] at this
      exact Option.some.inj this
    exact ⟨ds[i], List.getElem?_eq_getElem l, h2.own (isFrzL_mem hf _ (List.getElem_mem l)), Ext.refl _⟩
  stop := fun b H σ env F i j l => by
    obtain ⟨a', vs, e, hs, hl, hg⟩ := Lk.tup (SJ.lkF (F := F) j)
    rw [ev] at e
    obtain rfl := V.ref.inj e
    exact ⟨vs, hs, by rw [hl]; exact l⟩
theorem Itr_of {g : Glb} {lo : Int} {n : Nat} : ItOf g (Itr lo n) [] ((List.range n).map fun (i : Nat) => .int (lo + i)) where
  go := fun b H σ env F i j l => show i < n by simpa using l
  yld := fun b H σ env F i x H' j l y => by
    obtain ⟨rfl, rfl⟩ := y
    have l' : i < n := by simpa using l
    exact ⟨.int (lo + i), by simp [l'], j.add fun _ => .int _, Ext.refl _⟩
  stop := fun b H σ env F i j l => show n ≤ i by simpa using l
/-- lists, tuples -/
abbrev iSeq (K : PySem.W.Frag) (tl : TE) : TI := fun σ H R => tl σ H fun x H1 => (∃ a, x = .ref a ∧ (∃ xs, SqL K H1 a xs) ∧ R (Itl K a) H1) ∨ (∃ a, x = .ref a ∧ (∃ xs, SqT K H1 a xs) ∧ R (Itt K a) H1) ∨ ∃ y, x = .str y ∧ R (Its y) H1
theorem pi_seq {X : Cx} {tg l : Expr} {tl : TE} (hl : PE X l tl) : PI X tg l (iSeq X.K tl) := by
  refine ⟨fun pins s σ H R I h => ?_⟩
  refine thn (hl.run pins s σ H _ I h) fun v s1 ⟨x, H1, I1, r1, q1⟩ => ?_
  rcases q1 with ⟨a, e, ⟨xs, hq⟩, q⟩ | ⟨a, e, ⟨xs, hq⟩, q⟩ | ⟨y, e, q⟩
  · subst e
    cases r1
    obtain ⟨its, rv, p, hz⟩ := I1.list hq
    refine wpAny_pyIter_list p.isList ?_
    refine ⟨s1.heap.objs.size, [s1.heap.objs.size], _, _, H1, rfl, I1.kept (t' := s1.toks) fun b o e => Heap.get?_push_of_some _ e, turn_list a _, ⟨_, Heap.get?_push_size _ rfl, rfl, rfl⟩, fun b hb => ?_, q⟩
    have e : b = s1.heap.objs.size := by simpa using hb
    subst e
    exact I1.fpOk (Nat.le_refl _) (I1.hok.fresh (Nat.le_refl _))
  · subst e
    cases r1
    obtain ⟨its, rv, p, hz⟩ := I1.tuple hq
    refine wpAny_pyIter_tuple (show s1.heap.IsTuple a its.toArray from p) ?_
    refine ⟨s1.heap.objs.size, [s1.heap.objs.size], _, _, H1, rfl, I1.kept (t' := s1.toks) fun b o e => Heap.get?_push_of_some _ e, turn_tuple a _, ⟨_, Heap.get?_push_size _ rfl, rfl, rfl⟩, fun b hb => ?_, q⟩
    have e : b = s1.heap.objs.size := by simpa using hb
    subst e
    exact I1.fpOk (Nat.le_refl _) (I1.hok.fresh (Nat.le_refl _))
  · subst e
    obtain ⟨t, rfl⟩ := r1
    cases ha : y.cps.all (· < 128)
    · exact wpAny_pyIter_wide ha (pi_one (tk := s1.toks) I1 _ (turn_str _ y t "str_iterator" (.inr rfl)) ⟨_, Heap.get?_push_size _ rfl, rfl, rfl⟩ q)
    · exact wpAny_pyIter_ascii ha (pi_one (tk := s1.toks) I1 _ (turn_str _ y t "str_ascii_iterator" (.inl rfl)) ⟨_, Heap.get?_push_size _ rfl, rfl, rfl⟩ q)
theorem Its_of {g : Glb} {s : Str} : ItOf g (Its s) [] (s.cps.toList.map fun c => .str ⟨#[c]⟩) where
  go := fun b H σ env F i j l => show i < s.cps.size by simpa using l
  yld := fun b H σ env F i x H' j l y => by
    obtain ⟨rfl, c, h1, rfl⟩ := y
    exact ⟨.str ⟨#[c]⟩, by simp [h1], j.add fun _ => .str _, Ext.refl _⟩
  stop := fun b H σ env F i j l => show s.cps.size ≤ i by simpa using l
/-- enumerate -/
theorem Ite_of {g : Glb} {v : V} {a : Addr} {o : Bool} {ds : List D} (ev : v = .ref a) (hf : isFrzL ds = true) : ItOf g (Ite g.K a) [(v, .lst o ds)] (ds.mapIdx fun i d => .tup [.int (i : Nat), d]) where
  go := fun b H σ env F i j l => by
    obtain ⟨a', vs, e, hs, hl, hg⟩ := Lk.lst (SJ.lkF (F := F) j)
    rw [ev] at e
    obtain rfl := V.ref.inj e
    have l' : i < ds.length := by simpa using l
    exact ⟨vs, vs[i]'(by rw [hl]; exact l'), hs, List.getElem?_eq_getElem _⟩
  yld := fun b H σ env F i x H' j l y => by
    obtain ⟨T, x1, rfl, hT, rfl, y⟩ := y
    obtain ⟨a', vs, e, hs, hl, hg⟩ := Lk.lst (SJ.lkF (F := F) j)
    rw [ev] at e
    obtain rfl := V.ref.inj e
    have l' : i < ds.length := by simpa using l
    obtain ⟨u, h1, h2⟩ := hg i ds[i] (List.getElem?_eq_getElem l')
    obtain rfl : u = x1 := by
      have := y vs hs
      rw [h1] at this
      exact Option.some.inj this
    have j2 := h2.own (isFrzL_mem hf _ (List.getElem_mem l'))
    have j3 := j2.add (v := .int (i : Nat)) (d := .int (i : Nat)) fun _ => .int _
    exact ⟨.tup [.int (i : Nat), ds[i]], by simp [l'], SJ.newTup (vs := [.int (i : Nat), u]) (ds := [.int (i : Nat), ds[i]]) hT rfl j3, Ext.new hT⟩
  stop := fun b H σ env F i j l => by
    obtain ⟨a', vs, e, hs, hl, hg⟩ := Lk.lst (SJ.lkF (F := F) j)
    rw [ev] at e
    obtain rfl := V.ref.inj e
    exact ⟨vs, hs, by rw [hl]; simpa using l⟩
/-- zip of two lists, of two tuples -/
theorem Itz_of {g : Glb} {v w : V} {a c : Addr} {o o' : Bool} {ds es : List D} (ev : v = .ref a) (ew : w = .ref c) (hf : isFrzL ds = true) (hf' : isFrzL es = true) : ItOf g (Itz g.K a c) [(w, .lst o' es), (v, .lst o ds)] (List.zipWith (fun d e => .tup [d, e]) ds es) where
  go := fun b H σ env F i j l => by
    obtain ⟨a', vs, e, hs, hl, hg⟩ := Lk.lst (SJ.lkF (F := (w, .lst o' es) :: F) (j.perm (.swap ..)))
    obtain ⟨c', ws, e', hs', hl', hg'⟩ := Lk.lst (SJ.lkF (F := (v, .lst o ds) :: F) j)
    rw [ev] at e
    rw [ew] at e'
    obtain rfl := V.ref.inj e
    obtain rfl := V.ref.inj e'
    have l' : i < ds.length ∧ i < es.length := by simpa [Nat.lt_min] using l
    exact ⟨vs, ws, vs[i]'(by rw [hl]; exact l'.1), ws[i]'(by rw [hl']; exact l'.2), hs, hs', List.getElem?_eq_getElem _, List.getElem?_eq_getElem _⟩
  yld := fun b H σ env F i x H' j l y => by
    obtain ⟨T, x1, y1, rfl, hT, rfl, y, y'⟩ := y
    have jj : SJ g b H σ env ((v, .lst o ds) :: (w, .lst o' es) :: F) := j.perm (.swap ..)
    obtain ⟨a', vs, e, hs, hl, hg⟩ := Lk.lst (SJ.lkF jj)
    rw [ev] at e
    obtain rfl := V.ref.inj e
    have l' : i < ds.length ∧ i < es.length := by simpa [Nat.lt_min] using l
    obtain ⟨u, h1, h2⟩ := hg i ds[i] (List.getElem?_eq_getElem l'.1)
    obtain rfl : u = x1 := by
      have := y vs hs
      rw [h1] at this
      exact Option.some.inj this
    have j2 := h2.own (isFrzL_mem hf _ (List.getElem_mem l'.1))
    have j3 : SJ g b H σ env ((w, .lst o' es) :: (u, ds[i]) :: (v, .lst o ds) :: F) := j2.perm (((List.Perm.swap ..).cons _).trans (.swap ..))
    obtain ⟨c', ws, e', hs', hl', hg'⟩ := Lk.lst (SJ.lkF j3)
    rw [ew] at e'
    obtain rfl := V.ref.inj e'
    obtain ⟨u2, h3, h4⟩ := hg' i es[i] (List.getElem?_eq_getElem l'.2)
    obtain rfl : u2 = y1 := by
      have := y' ws hs'
      rw [h3] at this
      exact Option.some.inj this
    have j4 := h4.own (isFrzL_mem hf' _ (List.getElem_mem l'.2))
    have j5 : SJ g b H σ env ([u, u2].zip [ds[i], es[i]] ++ ((w, .lst o' es) :: (v, .lst o ds) :: F)) := by
      refine j4.perm ?_
      show List.Perm ((u2, es[i]) :: (w, D.lst o' es) :: (u, ds[i]) :: (v, D.lst o ds) :: F) ((u, ds[i]) :: (u2, es[i]) :: (w, D.lst o' es) :: (v, D.lst o ds) :: F)
      exact ((List.Perm.swap ..).cons _).trans (.swap ..)
    exact ⟨.tup [ds[i], es[i]], by rw [List.getElem?_zipWith, List.getElem?_eq_getElem l'.1, List.getElem?_eq_getElem l'.2], SJ.newTup hT rfl j5, Ext.new hT⟩
  stop := fun b H σ env F i j l => by
    obtain ⟨a', vs, e, hs, hl, hg⟩ := Lk.lst (SJ.lkF (F := (w, .lst o' es) :: F) (j.perm (.swap ..)))
    obtain ⟨c', ws, e', hs', hl', hg'⟩ := Lk.lst (SJ.lkF (F := (v, .lst o ds) :: F) j)
    rw [ev] at e
    rw [ew] at e'
    obtain rfl := V.ref.inj e
    obtain rfl := V.ref.inj e'
    have l' : ds.length ≤ i ∨ es.length ≤ i := by
      have l1 := l
      rw [List.length_zipWith] at l1
      omega
    exact ⟨vs, ws, hs, hs', by rw [hl, hl']; exact l'⟩
theorem ItzT_of {g : Glb} {v w : V} {a c : Addr} {ds es : List D} (ev : v = .ref a) (ew : w = .ref c) (hf : isFrzL ds = true) (hf' : isFrzL es = true) : ItOf g (RZ.ItzT g.K a c) [(w, .tup es), (v, .tup ds)] (List.zipWith (fun d e => .tup [d, e]) ds es) where
  go := fun b H σ env F i j l => by
    obtain ⟨a', vs, e, hs, hl, hg⟩ := Lk.tup (SJ.lkF (F := (w, .tup es) :: F) (j.perm (.swap ..)))
    obtain ⟨c', ws, e', hs', hl', hg'⟩ := Lk.tup (SJ.lkF (F := (v, .tup ds) :: F) j)
    rw [ev] at e
    rw [ew] at e'
    obtain rfl := V.ref.inj e
    obtain rfl := V.ref.inj e'
    have l' : i < ds.length ∧ i < es.length := by simpa [Nat.lt_min] using l
    exact ⟨vs, ws, vs[i]'(by rw [hl]; exact l'.1), ws[i]'(by rw [hl']; exact l'.2), hs, hs', List.getElem?_eq_getElem _, List.getElem?_eq_getElem _⟩
  yld := fun b H σ env F i x H' j l y => by
    obtain ⟨T, x1, y1, rfl, hT, rfl, y, y'⟩ := y
    have jj : SJ g b H σ env ((v, .tup ds) :: (w, .tup es) :: F) := j.perm (.swap ..)
    obtain ⟨a', vs, e, hs, hl, hg⟩ := Lk.tup (SJ.lkF jj)
    rw [ev] at e
    obtain rfl := V.ref.inj e
    have l' : i < ds.length ∧ i < es.length := by simpa [Nat.lt_min] using l
    obtain ⟨u, h1, h2⟩ := hg i ds[i] (List.getElem?_eq_getElem l'.1)
    obtain rfl : u = x1 := by
      have := y vs hs
      rw [h1] at this
      exact Option.some.inj this
    have j2 := h2.own (isFrzL_mem hf _ (List.getElem_mem l'.1))
    have j3 : SJ g b H σ env ((w, .tup es) :: (u, ds[i]) :: (v, .tup ds) :: F) := j2.perm (((List.Perm.swap ..).cons _).trans (.swap ..))
    obtain ⟨c', ws, e', hs', hl', hg'⟩ := Lk.tup (SJ.lkF j3)
    rw [ew] at e'
    obtain rfl := V.ref.inj e'
    obtain ⟨u2, h3, h4⟩ := hg' i es[i] (List.getElem?_eq_getElem l'.2)
    obtain rfl : u2 = y1 := by
      have := y' ws hs'
      rw [h3] at this
      exact Option.some.inj this
    have j4 := h4.own (isFrzL_mem hf' _ (List.getElem_mem l'.2))
    have j5 : SJ g b H σ env ([u, u2].zip [ds[i], es[i]] ++ ((w, .tup es) :: (v, .tup ds) :: F)) := by
      refine j4.perm ?_
      show List.Perm ((u2, es[i]) :: (w, D.tup es) :: (u, ds[i]) :: (v, D.tup ds) :: F) ((u, ds[i]) :: (u2, es[i]) :: (w, D.tup es) :: (v, D.tup ds) :: F)
      exact ((List.Perm.swap ..).cons _).trans (.swap ..)
    exact ⟨.tup [ds[i], es[i]], by rw [List.getElem?_zipWith, List.getElem?_eq_getElem l'.1, List.getElem?_eq_getElem l'.2], SJ.newTup hT rfl j5, Ext.new hT⟩
  stop := fun b H σ env F i j l => by
    obtain ⟨a', vs, e, hs, hl, hg⟩ := Lk.tup (SJ.lkF (F := (w, .tup es) :: F) (j.perm (.swap ..)))
    obtain ⟨c', ws, e', hs', hl', hg'⟩ := Lk.tup (SJ.lkF (F := (v, .tup ds) :: F) j)
    rw [ev] at e
    rw [ew] at e'
    obtain rfl := V.ref.inj e
    obtain rfl := V.ref.inj e'
    have l' : ds.length ≤ i ∨ es.length ≤ i := by
      have l1 := l
      rw [List.length_zipWith] at l1
      omega
    exact ⟨vs, ws, hs, hs', by rw [hl, hl']; exact l'⟩
/-- what a value is walked as -/
def itemsD : D → Option (List D)
  | .lst _ xs => some xs
  | .tup xs => some xs
  | .str s => some (s.cps.toList.map fun c => .str ⟨#[c]⟩)
  | _ => none
def mItems (m : M D) : M (List D) := fun env => (m env).bind fun d e => match itemsD (frz d) with
  | some ds => .ok ds e
  | none => .bad
theorem PoE.intoI {g : Glb} {b : Bs} {p : Bool} {W : L2.WX} {σ : Sg} {H : Hp} {F : Prs} {r : Rs D} {k : D → En → Rs (List D)} {Q : VK} {R : It → Hp → Prop} (h : PoI g b p W σ H F R (r.bind k))
    (go : ∀ d e v H', PoI g b p W σ H F R (k d e) → SJ g b H' σ e ((v, d) :: F) → (p = true → Ext H H') → Q v H') : PoE g b p W σ H F Q r := PoE.into (PoI g b p W σ H F R) (fun _ _ _ h => h) (fun h => h) h go
section
variable {Γ : Cs} {sc : Scope} {p : Bool} {tg e e2 : Expr} {es : List Expr} {ma : M D} {ms : M (List D)} {pos : Pos}
theorem SI_seq (h : SE Γ sc p e ma) : SI Γ sc p tg e (mItems ma) := fun X W G T => PI.imp (pi_seq (h X W G T)) fun σ H R ⟨b, env, F, j, h⟩ =>
  ⟨b, env, F, j, PoE.intoI h fun d e v H' h j x => by
    have j1 := j.freeze
    have w := j1.vwF
    have ff := isFrz_frz d
    generalize frz d = d' at h j1 w ff
    rw [G.K]
    cases w with
    | @lst o a vs ds hs r =>
      have hf : isFrzL ds = true := (Bool.and_eq_true_iff.mp (show (!o && isFrzL ds) = true from ff)).2
      exact .inl ⟨a, rfl, ⟨vs, hs⟩, h _ [(.ref a, .lst o ds)] H' (Itl_of rfl hf) j1 x⟩
    | @tup a vs ds hs r => exact .inr (.inl ⟨a, rfl, ⟨vs, hs⟩, h _ [(.ref a, .tup ds)] H' (Itt_of rfl ff) j1 x⟩)
    | str s => exact .inr (.inr ⟨s, rfl, h _ [] H' Its_of j1.drop x⟩)
    | _ => exact h.elim⟩
/-- range(n) -/
def rng1 : List D → Option (List D)
  | [.int j] => if -(2 ^ 62) ≤ j ∧ j < 2 ^ 62 then some ((List.range j.toNat).map fun (i : Nat) => .int (0 + i)) else none
  | _ => none
def rng2 : List D → Option (List D)
  | [.int i, .int j] => if -(2 ^ 62) ≤ i ∧ i < 2 ^ 62 ∧ -(2 ^ 62) ≤ j ∧ j < 2 ^ 62 then some ((List.range (j - i).toNat).map fun (k : Nat) => .int (i + k)) else none
  | _ => none
def enmD : List D → Option (List D)
  | [.lst _ ds] => some (ds.mapIdx fun i d => .tup [.int (i : Nat), d])
  | _ => none
def zipD : List D → Option (List D)
  | [.lst _ ds, .lst _ es] => some (List.zipWith (fun d e => .tup [d, e]) ds es)
  | [.tup ds, .tup es] => some (List.zipWith (fun d e => .tup [d, e]) ds es)
  | _ => none
theorem one_arg {vs : List V} {ds : List D} {f : List D → Option (List D)} {xs : List D} (l : vs.length = ds.length) (h1 : ∀ a b r, f (a :: b :: r) = none) (h0 : f [] = none) (e : f ds = some xs) : ∃ v d, vs = [v] ∧ ds = [d] := by
  match ds, vs, l with
  | [], _, _ => rw [h0] at e; cases e
  | [d], [v], _ => exact ⟨v, d, rfl, rfl⟩
  | a :: b :: r, _, _ => rw [h1] at e; cases e
def mIt (f : List D → Option (List D)) (ms : M (List D)) : M (List D) := fun env => (ms env).bind fun ds e => match f (frzL ds) with
  | some xs => .ok xs e
  | none => .bad
theorem SJ.freezeL {g : Glb} {b : Bs} {H : Hp} {σ : Sg} {env : En} : ∀ {vs : List V} {ds : List D} {F : Prs}, vs.length = ds.length → SJ g b H σ env (vs.zip ds ++ F) → SJ g b H σ env (vs.zip (frzL ds) ++ F)
  | [], [], F, _, j => j
  | v :: vs, d :: ds, F, l, j => by
    have j1 : SJ g b H σ env ((v, frz d) :: (vs.zip ds ++ F)) := SJ.freeze (F := vs.zip ds ++ F) j
    have j2 : SJ g b H σ env (vs.zip ds ++ ((v, frz d) :: F)) := j1.perm List.perm_middle.symm
    exact (SJ.freezeL (Nat.succ.inj l) j2).perm List.perm_middle
  | [], _ :: _, _, l, _ => nomatch l
  | _ :: _, [], _, l, _ => nomatch l
theorem frzL_len : ∀ ds : List D, (frzL ds).length = ds.length := fun ds => by rw [frzL_map, List.length_map]
/-- an iterator over what the arguments are -/
theorem rd_it {g : Glb} {W : L2.WX} {f : List D → Option (List D)} {σ : Sg} {H : Hp} {R : It → Hp → Prop} {K : List V → Hp → Prop} (h : rdI g p W (mIt f ms) σ H R)
    (hk : ∀ b H' e F vs ds xs, vs.length = ds.length → isFrzL ds = true → SJ g b H' σ e (vs.zip ds ++ F) → f ds = some xs → (∀ J P, ItOf g J P xs → SJ g b H' σ e (P ++ F) → R J H') → K vs H') : rdA g p W ms σ H K := by
  obtain ⟨b, env, F, j, h⟩ := h
  refine ⟨b, env, F, j, PoA.into (PoI g b p W σ H F R) (fun _ _ _ h => h) (fun h => h) h fun ds e vs H' h l j x => ?_⟩
  cases q : f (frzL ds) with
  | none => rw [q] at h; exact h.elim
  | some xs =>
    rw [q] at h
    exact hk b H' e F vs (frzL ds) xs (l.trans (frzL_len ds).symm) (isFrzL_frz ds) (SJ.freezeL l j) q fun J P hi j' => h J P H' hi j' x
theorem SI_range1 {pn : Pos} (hB : Blt Γ sc "range" (.type "range")) (ha : SA Γ sc p [e] ms) (hs : ∀ X : Cx, starEach [e] X.env = [(false, eval e X.env)] := by intro _; rfl) : SI Γ sc p tg (.Call (.Name "range" pn) [e] [] pos) (mIt rng1 ms) := fun X W G T =>
  PI.imp (pi_range1 (hB.g G) (hB.m G) (ha X W G T) (hs X)) fun σ H R h => rd_it h fun b H' e F vs ds xs l hf j q hR => by
    obtain ⟨v, d, rfl, rfl⟩ := one_arg l (fun a b r => by cases a <;> rfl) rfl q
    cases d <;> try (cases q; done)
    rename_i k
    have w := SJ.vwF (F := F) j
    cases w
    have q' : (if -(2 ^ 62) ≤ k ∧ k < 2 ^ 62 then some ((List.range k.toNat).map fun (i : Nat) => D.int (0 + i)) else none) = some xs := q
    by_cases z : -(2 ^ 62) ≤ k ∧ k < 2 ^ 62
    · rw [if_pos z] at q'
      obtain rfl := Option.some.inj q'
      exact ⟨k, rfl, z.1, z.2, hR _ [] Itr_of (SJ.drop (F := F) j)⟩
    · rw [if_neg z] at q'; cases q'
theorem two_args {vs : List V} {ds : List D} {f : List D → Option (List D)} {xs : List D} (l : vs.length = ds.length) (h3 : ∀ a b c r, f (a :: b :: c :: r) = none) (h0 : f [] = none) (h1 : ∀ a, f [a] = none) (e : f ds = some xs) : ∃ v w d d', vs = [v, w] ∧ ds = [d, d'] := by
  match ds, vs, l with
  | [], _, _ => rw [h0] at e; cases e
  | [d], _, _ => rw [h1] at e; cases e
  | [d, d'], [v, w], _ => exact ⟨v, w, d, d', rfl, rfl⟩
  | a :: b :: c :: r, _, _ => rw [h3] at e; cases e
theorem SI_range2 {pn : Pos} (hB : Blt Γ sc "range" (.type "range")) (ha : SA Γ sc p [e, e2] ms) (hs : ∀ X : Cx, starEach [e, e2] X.env = [(false, eval e X.env), (false, eval e2 X.env)] := by intro _; rfl) (hs2 : ∀ X : Cx, starEach [e2] X.env = [(false, eval e2 X.env)] := by intro _; rfl) : SI Γ sc p tg (.Call (.Name "range" pn) [e, e2] [] pos) (mIt rng2 ms) := fun X W G T =>
  PI.imp (pi_range2 (hB.g G) (hB.m G) (ha X W G T) (hs X) (hs2 X)) fun σ H R h => rd_it h fun b H' e F vs ds xs l hf j q hR => by
    obtain ⟨v, v', d, d', rfl, rfl⟩ := two_args l (fun a b c r => by cases a <;> cases b <;> rfl) rfl (fun a => by cases a <;> rfl) q
    cases d <;> try (cases q; done)
    cases d' <;> try (cases q; done)
    rename_i i k
    have w := SJ.vwF (F := (v', .int k) :: F) j
    cases w
    have w := SJ.vwF (F := F) (SJ.drop (F := (v', .int k) :: F) j)
    cases w
    have q' : (if -(2 ^ 62) ≤ i ∧ i < 2 ^ 62 ∧ -(2 ^ 62) ≤ k ∧ k < 2 ^ 62 then some ((List.range (k - i).toNat).map fun (t : Nat) => D.int (i + t)) else none) = some xs := q
    by_cases z : -(2 ^ 62) ≤ i ∧ i < 2 ^ 62 ∧ -(2 ^ 62) ≤ k ∧ k < 2 ^ 62
    · rw [if_pos z] at q'
      obtain rfl := Option.some.inj q'
      exact ⟨i, k, rfl, z, hR _ [] Itr_of (SJ.drop (F := F) (SJ.drop (F := (_, D.int k) :: F) j))⟩
    · rw [if_neg z] at q'; cases q'
theorem SI_enum {pn : Pos} {elts : List Expr} {kk : Nat} {tp : Pos} (hB : Blt Γ sc "enumerate" (.type "enumerate")) (ha : SA Γ sc p [e] ms) (hs : ∀ X : Cx, starEach [e] X.env = [(false, eval e X.env)] := by intro _; rfl) : SI Γ sc p (.Tuple elts kk tp) (.Call (.Name "enumerate" pn) [e] [] pos) (mIt enmD ms) := fun X W G T =>
  PI.imp (pi_enum (hB.g G) (hB.m G) (ha X W G T) (hs X)) fun σ H R h => rd_it h fun b H' e F vs ds xs l hf j q hR => by
    obtain ⟨v, d, rfl, rfl⟩ := one_arg l (fun a b r => by cases a <;> rfl) rfl q
    cases d <;> try (cases q; done)
    rename_i o ys
    obtain rfl := Option.some.inj q
    have w := SJ.vwF (F := F) j
    rw [G.K]
    cases w with
    | @lst _ a vs _ h r =>
      have hf2 : (!o && isFrzL ys) = true := (Bool.and_eq_true_iff.mp (show (isFrz (.lst o ys) && true) = true from hf)).1
      exact ⟨a, vs, rfl, h, hR _ [(.ref a, .lst o ys)] (Ite_of rfl (Bool.and_eq_true_iff.mp hf2).2) j⟩
theorem SI_zip {pn : Pos} {elts : List Expr} {kk : Nat} {tp : Pos} (hB : Blt Γ sc "zip" (.type "zip")) (ha : SA Γ sc p [e, e2] ms) (hs : ∀ X : Cx, starEach [e, e2] X.env = (false, eval e X.env) :: starEach [e2] X.env := by intro _; rfl)
    (hpl : ∀ X : Cx, (backTo pos (starEach [e2] X.env)).any (·.1) = false := by intro _; rfl) : SI Γ sc p (.Tuple elts kk tp) (.Call (.Name "zip" pn) [e, e2] [] pos) (mIt zipD ms) := fun X W G T =>
  PI.imp (RZ.pi_zipA (hB.g G) (hB.m G) (ha X W G T) (hs X) (hpl X)) fun σ H R h => rd_it h fun b H' e F vs ds xs l hf j q hR => by
    obtain ⟨v, v', d, d', rfl, rfl⟩ := two_args l (fun a b c r => by cases a <;> cases b <;> rfl) rfl (fun a => by cases a <;> rfl) q
    have hf1 : (isFrz d && (isFrz d' && true)) = true := hf
    have f1 := (Bool.and_eq_true_iff.mp hf1).1
    have f2 := (Bool.and_eq_true_iff.mp (Bool.and_eq_true_iff.mp hf1).2).1
    have w1 := SJ.vwF (F := (v', d') :: F) j
    have w2 := SJ.vwF (F := F) (SJ.drop (F := (v', d') :: F) j)
    rw [G.K]
    cases d <;> try (cases q; done)
    · cases d' <;> try (cases q; done)
      rename_i ys zs
      obtain rfl := Option.some.inj q
      cases w1 with
      | @tup a vs _ h r =>
        cases w2 with
        | @tup c ws _ h' r' => exact ⟨a, c, vs, ws, rfl, .inr ⟨h, h', hR _ [(.ref c, .tup zs), (.ref a, .tup ys)] (ItzT_of rfl rfl f1 f2) (j.perm (.swap ..))⟩⟩
    · cases d' <;> try (cases q; done)
      rename_i o ys o' zs
      obtain rfl := Option.some.inj q
      cases w1 with
      | @lst _ a vs _ h r =>
        cases w2 with
        | @lst _ c ws _ h' r' => exact ⟨a, c, vs, ws, rfl, .inl ⟨h, h', hR _ [(.ref c, .lst o' zs), (.ref a, .lst o ys)] (Itz_of rfl rfl (Bool.and_eq_true_iff.mp f1).2 (Bool.and_eq_true_iff.mp f2).2) (j.perm (.swap ..))⟩⟩
end
end TL
end

-- text TL15
section
set_option Elab.async false
set_option linter.all false
set_option maxRecDepth 100000
set_option maxHeartbeats 4000000
namespace TL
open PySem PySem.Spec PyProof.Rows L2

/-! ### for -/
def forL (st : D → En → Option En) (body : MS) : List D → MS
  | [] => fun e => .nx e
  | x :: xs => fun e => match st x e with
    | none => .bad
    | some e => (body e).turn (forL st body xs)
def sFor (mi : M (List D)) (st : D → En → Option En) (body : MS) : MS := fun e => (mi e).s fun xs e => forL st body xs e
theorem RS.turn_frame {g : Glb} {W : L2.WX} {φ : Fr} {P : Prs} {D : Ends} {r : RS} {k : MS} {N : L2.St → Hp → Prop} (h : PoS g W φ D (r.turn k)) (hk : ∀ e, PoS g W φ D (k e) → NxS g ⟨φ.b, P ++ φ.F, φ.pv⟩ e N) : PoS g W ⟨φ.b, P ++ φ.F, φ.pv⟩ { D with nx := N, ct := N, bk := D.nx } r := by
  cases r with
  | nx e => exact hk e h
  | ct e => exact hk e h
  | bk e => exact fun σ H j hp => h σ H j.dropL hp
  | rt d e => exact fun v σ H j hp => h v σ H (SJ.dropL (F' := P) (j.perm List.perm_middle.symm)) hp
  | exc c fs e => exact fun σ C d H vfs a1 a2 a3 j hp => h σ C d H vfs a1 a2 a3 (SJ.dropL (F' := P) (j.perm zapp_perm)) hp
  | bad => exact h
section
variable {Γ : Cs} {sc : Scope} {p : Bool} {B is : List Nat} {tg it : Expr} {mi : M (List D)} {st : D → En → Option En} {xs : List Stmt} {body : MS} {pos : Pos}
theorem PoI.ofS {g : Glb} {W : L2.WX} {φ : Fr} {D : Ends} {σ : Sg} {H : Hp} {R : It → Hp → Prop} {r : Rs (List TL.D)} (k : List TL.D → En → RS) (hp : Pins φ.pv σ) (h : PoS g W φ D (r.s k))
    (go : ∀ ds e J P H', PoS g W φ D (k ds e) → ItOf g J P ds → SJ g φ.b H' σ e (P ++ φ.F) → (p = true → Ext H H') → R J H') : PoI g φ.b p W σ H φ.F R r := by
  cases r with
  | ok d e => exact fun J P H' hi j x => go d e J P H' h hi j x
  | exc c fs e => exact XS.xw h hp
  | bad => exact h
theorem SS_for (hi : SI Γ sc p tg it mi) (hg : SG Γ sc (fun _ => true) tg is st) (hB : ∀ i ∈ is, i ∉ B) (hb : SSs Γ sc B xs body) (hs : ∀ (X : Cx) x, foldedSetIterable it X.env x = pure x := by intro _ _; rfl) : SS Γ sc B (.For tg it xs [] pos) (sFor mi st body) := fun X W G T hf =>
  PS.imp (ps_for G.pass G.calm (hi X W G T) (hg X G hf) (hb X W G T hf) (hs X)) fun D σ H ⟨φ, hφ, env, j, hp, h⟩ => by
    refine ⟨φ.b, env, φ.F, j, PoI.ofS (fun xs e => forL st body xs e) hp h fun ds e J P H' h hI j' x => ?_⟩
    refine ⟨fun i m σ H => m = ds.length - i ∧ ∃ env, SJ Γ.g φ.b H σ env (P ++ φ.F) ∧ Pins φ.pv σ ∧ PoS Γ.g W φ D (forL st body (ds.drop i) env), ⟨_, rfl, e, j', hp, h⟩, ?_⟩
    rintro i m σ1 H1 ⟨rfl, e1, j1, hp1, h1⟩
    by_cases l : i < ds.length
    · refine .inr ⟨hI.go _ _ _ _ _ i j1 l, fun σ' H' => ∃ env, SJ Γ.g φ.b H' σ' env (P ++ φ.F) ∧ Pins φ.pv σ' ∧ PoS Γ.g W φ D (forL st body (ds.drop (i + 1)) env), fun σ' H' q => ⟨_, by omega, rfl, q⟩, fun v H2 y => ?_⟩
      obtain ⟨d, hd, j2, x2⟩ := hI.yld _ _ _ _ _ i v H2 j1 l y
      have ed : ds.drop i = d :: ds.drop (i + 1) := by
        rw [List.drop_eq_getElem_cons l]
        rw [List.getElem?_eq_getElem l] at hd
        rw [Option.some.inj hd]
      rw [ed] at h1
      unfold forL at h1
      cases q : st d e1 with
      | none => rw [q] at h1; exact h1.elim
      | some e2 =>
        rw [q] at h1
        refine ⟨φ.b, e1, P ++ φ.F, d, e2, j2, q, fun σ3 j3 l3 k3 => ?_⟩
        refine ⟨⟨φ.b, P ++ φ.F, φ.pv⟩, hφ, e2, j3, fun p m => ?_, RS.turn_frame h1 fun e h' σ' H' j' hp' => ⟨e, j', hp', h'⟩⟩
        rw [k3 p.1 fun z => hB p.1 z (by rw [← hφ]; exact List.mem_map_of_mem m)]
        exact hp1 p m
    · refine .inl ⟨hI.stop _ _ _ _ _ i j1 (by omega), ?_⟩
      rw [List.drop_eq_nil_of_le (by omega)] at h1
      exact h1 σ1 H1 j1.dropL hp1
end

/-! ### list comprehensions -/
def wipeE (e : En) : List Nat → En
  | [] => e
  | i :: is => (wipeE e is).set i none
section
variable {g : Glb} {b : Bs} {H : Hp} {σ σ' : Sg} {env : En} {F : Prs}
theorem Sl.resl {ps : Prs} (s : Sl σ env ps) : ∀ {σ' : Sg}, σ'.length = σ.length → (∀ i : Nat, env[i]? = some none ∨ σ'[i]? = σ[i]?) → Sl σ' env ps := by
  induction s with
  | nil =>
    intro σ' l h
    obtain rfl := List.eq_nil_of_length_eq_zero l
    exact .nil
  | no r ih =>
    intro σ' l h
    cases σ' with
    | nil => cases l
    | cons x σ' => exact .no (ih (Nat.succ.inj l) fun i => by simpa using h (i + 1))
  | yes r ih =>
    intro σ' l h
    cases σ' with
    | nil => cases l
    | cons x σ' =>
      have h0 := h 0
      simp only [List.getElem?_cons_zero] at h0
      rcases h0 with h0 | h0
      · cases h0
      · obtain rfl := Option.some.inj h0
        exact .yes (ih (Nat.succ.inj l) fun i => by simpa using h (i + 1))
theorem SJ.resl (j : SJ g b H σ env F) (l : σ'.length = σ.length) (h : ∀ i : Nat, env[i]? = some none ∨ σ'[i]? = σ[i]?) : SJ g b H σ' env F := let ⟨ps, s, j⟩ := j; ⟨ps, s.resl l h, j⟩
theorem wipeE_length : ∀ is : List Nat, (wipeE env is).length = env.length
  | [] => rfl
  | i :: is => by
    show ((wipeE env is).set i none).length = _
    rw [List.length_set, wipeE_length is]
theorem SJ.wipeAll : ∀ (is : List Nat), SJ g b H σ env F → SJ g b H (L2.wipe σ is) (wipeE env is) F
  | [], j => j
  | i :: is, j => by
    have j1 := SJ.forget i (SJ.wipeAll is j)
    show SJ g b H ((L2.wipe σ is).set i none) ((wipeE env is).set i none) F
    refine SJ.resl j1 (List.length_set ..) fun k => ?_
    by_cases e : i = k
    · subst e
      by_cases l : i < (wipeE env is).length
      · exact .inl (List.getElem?_set_self l)
      · refine .inr ?_
        have l2 : ¬ i < (L2.wipe σ is).length := by
          have := j1.len
          rw [List.length_set] at this
          omega
        rw [List.getElem?_eq_none (by rw [List.length_set]; omega), List.getElem?_eq_none (by omega)]
    · exact .inr (List.getElem?_set_ne e)
theorem wipeE_at : ∀ {is : List Nat} {i : Nat}, i ∈ is → i < env.length → (wipeE env is)[i]? = some none
  | k :: is, i, m, l => by
    show ((wipeE env is).set k none)[i]? = some none
    by_cases e : k = i
    · subst e
      exact List.getElem?_set_self (by rw [wipeE_length]; exact l)
    · rw [List.getElem?_set_ne e]
      rcases List.mem_cons.mp m with z | m
      · exact absurd z.symm e
      · exact wipeE_at m l
theorem wipe_ne : ∀ {is : List Nat} {i : Nat}, i ∉ is → (L2.wipe σ is)[i]? = σ[i]?
  | [], _, _ => rfl
  | k :: is, i, n => by
    show ((L2.wipe σ is).set k none)[i]? = σ[i]?
    rw [List.getElem?_set_ne fun z => n (by rw [z]; exact List.mem_cons_self)]
    exact wipe_ne fun m => n (List.mem_cons_of_mem _ m)
theorem wipe_in : ∀ {is : List Nat} {i : Nat}, i ∈ is → (L2.wipe σ is)[i]? = if i < σ.length then some none else none
  | k :: is, i, m => by
    show ((L2.wipe σ is).set k none)[i]? = _
    by_cases e : k = i
    · subst e
      by_cases l : k < σ.length
      · rw [if_pos l, List.getElem?_set_self (by rw [wipe_length]; exact l)]
      · rw [if_neg l, List.getElem?_eq_none (by rw [List.length_set, wipe_length]; omega)]
    · rw [List.getElem?_set_ne e]
      rcases List.mem_cons.mp m with z | m
      · exact absurd z.symm e
      · exact wipe_in m
/-- back out of the block -/
theorem SJ.unwipe {is : List Nat} (hl : σ.length = env.length) (j : SJ g b H (L2.wipe σ is) (wipeE env is) F) : SJ g b H σ (wipeE env is) F := j.resl (wipe_length σ is).symm fun i => by
  by_cases m : i ∈ is
  · by_cases l : i < env.length
    · exact .inl (wipeE_at m l)
    · exact .inr (by rw [wipe_in m, if_neg (by omega), List.getElem?_eq_none (by omega)])
  · exact .inr (wipe_ne m).symm
theorem wipe_of {is vs : List Nat} (hs : ∀ i ∈ is, i ∈ vs) (l : σ'.length = σ.length) (h : ∀ i, i ∉ is → σ'[i]? = σ[i]?) : L2.wipe σ' vs = L2.wipe σ vs := by
  refine List.ext_getElem? fun i => ?_
  by_cases m : i ∈ vs
  · rw [wipe_in m, wipe_in m, l]
  · rw [wipe_ne m, wipe_ne m]
    exact h i fun z => m (hs i z)
theorem wipe_wipe {vs : List Nat} : L2.wipe (L2.wipe σ vs) vs = L2.wipe σ vs := wipe_of (is := vs) (fun _ m => m) (wipe_length σ vs) fun i m => wipe_ne m
/-- an owned list that grows by an item -/
theorem SJ.append {a : Addr} {ds : List D} {y : V} {dy : D} (j : SJ g b H σ env ((y, dy) :: (.ref a, .lst true ds) :: F)) : ∃ vs, H a = some (.lst vs) ∧ vs.length = ds.length ∧ SJ g b (upd H a (.lst (vs ++ [y]))) σ env ((.ref a, .lst true (ds ++ [dy])) :: F) := by
  obtain ⟨a', vs, e, h, l, j1⟩ := SJ.openLst (F := (y, dy) :: F) (j.perm (.swap ..))
  obtain rfl := V.ref.inj e
  refine ⟨vs, h, l, SJ.closeLst (by rw [List.length_append, List.length_append, l]; rfl) ?_⟩
  rw [List.zip_append l, List.append_assoc]
  exact j1
end
def lcL (own : List Nat) (st : D → En → Option En) (tt : M Bool) (me : M D) : List D → List D → M D
  | [], acc => fun e => .ok (.lst true acc) (wipeE e own)
  | x :: xs, acc => fun e => match st x (wipeE e own) with
    | none => .bad
    | some e => match tt e with
      | .ok true e => (match me e with
        | .ok y e => if acc.length < sizeLine then lcL own st tt me xs (acc ++ [y]) e else .bad
        | _ => .bad)
      | .ok false e => lcL own st tt me xs acc e
      | _ => .bad
def mLc (mi : M (List D)) (own : List Nat) (st : D → En → Option En) (tt : M Bool) (me : M D) : M D := fun e => (mi e).bind fun xs e => lcL own st tt me xs [] e
def mYes : M Bool := fun e => .ok true e
def STs (Γ : Cs) (sc : Scope) (p : Bool) (es : List Expr) (m : M Bool) : Prop := ∀ X W, Good Γ sc X → Takes X W → PTs X es (rdT Γ.g p W m)
section
variable {Γ : Cs} {sc scope : Scope} {p pi pt pe : Bool} {own : List (Str × Nat)} {is : List Nat} {tg it elt c : Expr} {ifs : List Expr} {mi : M (List D)} {st : D → En → Option En} {tt : M Bool} {me : M D} {pos : Pos}
theorem PTs.imp {X : Cx} {es : List Expr} {t t' : TT} (h : PTs X es t) (i : ∀ σ H Q, t' σ H Q → t σ H Q) : PTs X es t' := ⟨fun pins s σ H Q I hw => h.run pins s σ H Q I (i σ H Q hw)⟩
theorem STs_nil : STs Γ sc true [] mYes := fun X W G T => PTs.imp pts_nil fun σ H Q ⟨b, env, F, j, h⟩ => h H j fun _ => Ext.refl H
theorem STs_one (h : ST Γ sc p c tt) : STs Γ sc p [c] tt := fun X W G T => pts_one (h X W G T)
theorem ext_new {H H' : Hp} {a : Addr} {o : HO} (x : Ext H H') (n : H a = none) : Ext H (upd H' a o) := fun c u e => by
  rw [upd_ne (ne_of_none e n)]
  exact x c u e
theorem rd_lc {g : Glb} {W : L2.WX} {vs : List Nat} (his : ∀ i ∈ is, i ∈ vs) {σ : Sg} {H : Hp} {Q : VK} (h : rdE g (pi && (pt && pe)) W (mLc mi vs st tt me) σ H Q) : tLc (rdI g pi W mi) (rdG g is st) (rdT g pt (fun _ _ _ _ => False) tt) (rdE g pe (fun _ _ _ _ => False) me) vs σ H Q := by
  obtain ⟨b, env, F, j, h⟩ := h
  refine ⟨b, env, F, j, ?_⟩
  unfold mLc at h
  cases q : mi env with
  | exc c fs e => rw [q] at h; exact h
  | bad => rw [q] at h; exact h
  | ok ds e =>
    rw [q] at h
    intro J P H1 hI j1 x1 L hL
    have h0 : PoE g b (pi && (pt && pe)) W σ H F Q (lcL vs st tt me ds [] e) := h
    clear h
    have nL : (pi && (pt && pe)) = true → H L = none := fun hp => by
      cases hz : H L with
      | none => rfl
      | some o =>
        have := x1 (Bool.and_eq_true_iff.mp hp).1 L o hz
        rw [hL] at this
        cases this
    have lenE : ∀ {e : En} {H : Hp} {F : Prs}, SJ g b H (L2.wipe σ vs) (wipeE e vs) F → σ.length = e.length := fun {e H F} j => by
      have := j.len
      rw [wipe_length, wipeE_length] at this
      exact this
    have j2 : SJ g b (upd H1 L (.lst [])) σ e ((.ref L, .lst true []) :: (P ++ F)) := SJ.newLst (vs := []) (ds := []) hL rfl j1
    refine ⟨fun i m H' => m = ds.length - i ∧ ∃ e acc, SJ g b H' (L2.wipe σ vs) (wipeE e vs) ((.ref L, .lst true acc) :: (P ++ F)) ∧ ((pi && (pt && pe)) = true → Ext H H') ∧ PoE g b (pi && (pt && pe)) W σ H F Q (lcL vs st tt me (ds.drop i) acc e),
      ⟨_, rfl, e, [], j2.wipeAll vs, fun hp => ext_new (x1 (Bool.and_eq_true_iff.mp hp).1) (nL hp), h0⟩, ?_⟩
    rintro i m H2 ⟨rfl, e2, acc, j3, x3, h3⟩
    by_cases l : i < ds.length
    · have j3' : SJ g b H2 (L2.wipe σ vs) (wipeE e2 vs) (P ++ ((.ref L, .lst true acc) :: F)) := j3.perm List.perm_middle.symm
      refine .inr ⟨hI.go _ _ _ _ _ i j3' l, fun H' => ∃ e acc, SJ g b H' (L2.wipe σ vs) (wipeE e vs) ((.ref L, .lst true acc) :: (P ++ F)) ∧ ((pi && (pt && pe)) = true → Ext H H') ∧ PoE g b (pi && (pt && pe)) W σ H F Q (lcL vs st tt me (ds.drop (i + 1)) acc e),
        fun H' q => ⟨_, by omega, rfl, q⟩, fun v H4 y => ?_⟩
      obtain ⟨d, hd, j4, x4⟩ := hI.yld _ _ _ _ _ i v H4 j3' l y
      have ed : ds.drop i = d :: ds.drop (i + 1) := by
        rw [List.drop_eq_getElem_cons l]
        rw [List.getElem?_eq_getElem l] at hd
        rw [Option.some.inj hd]
      rw [ed] at h3
      unfold lcL at h3
      have hx4 : (pi && (pt && pe)) = true → Ext H H4 := fun hp => (x3 hp).trans x4
      cases q : st d (wipeE e2 vs) with
      | none => rw [q] at h3; exact h3.elim
      | some e5 =>
        rw [q] at h3
        refine ⟨b, wipeE e2 vs, P ++ ((.ref L, .lst true acc) :: F), d, e5, j4, q, fun σ5 j5 l5 k5 => ?_⟩
        have w5 : L2.wipe σ5 vs = L2.wipe σ vs := (wipe_of his l5 k5).trans wipe_wipe
        refine ⟨w5, b, e5, P ++ ((.ref L, .lst true acc) :: F), j5, ?_⟩
        dsimp only at h3
        cases qt : tt e5 with
        | bad => rw [qt] at h3; exact h3.elim
        | exc c fs e => rw [qt] at h3; exact h3.elim
        | ok t e6 =>
          rw [qt] at h3
          intro H6 j6 x6
          cases t with
          | false =>
            have h7 : PoE g b (pi && (pt && pe)) W σ H F Q (lcL vs st tt me (ds.drop (i + 1)) acc e6) := h3
            refine ⟨e6, acc, ?_, fun hp => (hx4 hp).trans (x6 (Bool.and_eq_true_iff.mp (Bool.and_eq_true_iff.mp hp).2).1), h7⟩
            have j7 := (j6.perm List.perm_middle).wipeAll vs
            rw [w5] at j7
            exact j7
          | true =>
            dsimp only at h3
            refine ⟨b, e6, P ++ ((.ref L, .lst true acc) :: F), j6, ?_⟩
            cases qe : me e6 with
            | bad => rw [qe] at h3; exact h3.elim
            | exc c fs e => rw [qe] at h3; exact h3.elim
            | ok y e7 =>
              rw [qe] at h3
              intro vy H7 j7 x7
              have j8 : SJ g b H7 σ5 e7 ((vy, y) :: (.ref L, .lst true acc) :: (P ++ F)) := j7.perm (List.perm_middle.cons _)
              obtain ⟨vacc, hv, lv, j9⟩ := j8.append
              by_cases hz : acc.length < sizeLine
              · dsimp only at h3
                rw [if_pos hz] at h3
                refine ⟨vacc, hv, by rw [lv]; exact hz, e7, acc ++ [y], ?_, fun hp => ext_new (((hx4 hp).trans (x6 (Bool.and_eq_true_iff.mp (Bool.and_eq_true_iff.mp hp).2).1)).trans (x7 (Bool.and_eq_true_iff.mp (Bool.and_eq_true_iff.mp hp).2).2)) (nL hp), h3⟩
                have j10 := j9.wipeAll vs
                rw [w5] at j10
                exact j10
              · dsimp only at h3
                rw [if_neg hz] at h3
                exact h3.elim
    · refine .inl ⟨hI.stop _ _ _ _ _ i (j3.perm List.perm_middle.symm) (by omega), ?_⟩
      rw [List.drop_eq_nil_of_le (by omega)] at h3
      have j4 : SJ g b H2 σ (wipeE e2 vs) ((.ref L, .lst true acc) :: (P ++ F)) := SJ.unwipe (lenE j3) j3
      exact h3 (.ref L) H2 (SJ.dropL (F' := P) (j4.perm List.perm_middle.symm)) x3
theorem good_blk {X : Cx} (G : Good Γ sc X) {s : Shared} {H : Hp} {C : Addr} {cl : List (Str × Addr)} {fp : List Addr} : Good Γ (relS scope sc) (X.blk s H scope (compEnvC scope cl C X.env) fp) :=
  ⟨G.prog, G.w, G.K, G.mg, G.base, G.N, G.nd, by rw [← G.sc]; rfl, G.calm, G.room, PassesOwn.never, G.code⟩
theorem SE_lc (own : List (Str × Nat)) (hi : SI Γ sc pi tg it mi) (ok : blkC Γ.N sc scope own = true) (hg : SG Γ (relS scope sc) (fun x => scope.names.lookup x == some .cell) tg is st) (his : ∀ i ∈ is, i ∈ own.map (·.2)) (ht : STs Γ (relS scope sc) pt ifs tt) (he : SE Γ (relS scope sc) pe elt me)
    (hs : ∀ (X : Cx) x, foldedSetIterable it X.env x = pure x := by intro _ _; rfl) : SE Γ sc (pi && (pt && pe)) (.ListComp elt [⟨tg, it, ifs, 0⟩] scope pos) (mLc mi (own.map (·.2)) st tt me) := fun X W G T =>
  PE.imp (pe_lc G.calm (by rw [G.N]; exact G.nd) (hi X W G T) (by rw [G.N, G.sc]; exact blkOk_by ok) (fun s H C cl fp => hg _ (good_blk G) rfl) (fun s H C cl fp => ht _ _ (good_blk G) takes0) (fun s H C cl fp => he _ _ (good_blk G) takes0) (hs X)) fun σ H Q => rd_lc his
/-- name = [..] on one line -/
theorem SS_setLc (own : List (Str × Nat)) {B : List Nat} (i : Nat) {y : Str} {py spos : Pos} (hN : Γ.N[i]? = some y) (hy : sc.names.lookup y = some .local) (hi : SI Γ sc pi tg it mi) (ok : blkC Γ.N sc scope own = true) (hg : SG Γ (relS scope sc) (fun x => scope.names.lookup x == some .cell) tg is st) (his : ∀ i ∈ is, i ∈ own.map (·.2)) (ht : STs Γ (relS scope sc) pt ifs tt) (he : SE Γ (relS scope sc) pe elt me)
    (hk : sc.kind = .function) (hl : (py.line == pos.line) = true) (hsw : (scope.names.any fun (n, k) => n == y && (k == .local || k == .cell)) = false) (hiB : i ∉ B := by decide)
    (hs : ∀ (X : Cx) x, foldedSetIterable it X.env x = pure x := by intro _ _; rfl) : SS Γ sc B (.Assign [.Name y py] (.ListComp elt [⟨tg, it, ifs, 0⟩] scope pos) spos) (sSet i (mLc mi (own.map (·.2)) st tt me)) := fun X W G T hf =>
  PS.imp (ps_setLc G.calm (by rw [G.N]; exact G.nd) (by rw [G.N]; exact hN) (by rw [G.sc]; exact hy) (sw_true (by rw [G.sc]; exact hk) (by rw [G.sc]; exact hy) hl hsw) (hi X W G T) (by rw [G.N, G.sc]; exact blkOk_by ok) (fun s H C cl fp => hg _ (good_blk G) rfl) (fun s H C cl fp => ht _ _ (good_blk G) takes0) (fun s H C cl fp => he _ _ (good_blk G) takes0) (hs X)) fun D σ H ⟨φ, hB, env, j, hp, h⟩ =>
    rd_lc his ⟨φ.b, env, φ.F, j, PoE.ofS (fun d e => setE i d e) hp h fun d e v H' h j x => by
      unfold setE at h
      by_cases l : i < e.length
      · rw [if_pos l] at h
        exact h _ _ (j.store l) (pins_set hB hiB hp)
      · rw [if_neg l] at h
        exact h.elim⟩
end
end TL
end

-- text TL16
section
set_option Elab.async false
set_option linter.all false
set_option maxRecDepth 100000
set_option maxHeartbeats 4000000
namespace TL
open PySem PySem.Spec PyProof.Rows L2

/-! ### names of the module -/
/-- x stands for the tree d -/
structure GV (Γ : Cs) (x : Str) (d : D) : Prop where
  ex : ∃ v u, Γ.mg x = some u ∧ RelV v u ∧ ∀ H Z, Rep Γ.g H Z v d []
section
variable {Γ : Cs} {sc : Scope} {p pa pb : Bool} {a c e f : Expr} {na nb n : Rdr} {pos : Pos} {x : Str}
theorem SR_glob {d : D} (h : GV Γ x d) (hg : sc.names.lookup x = some .globalImplicit) (hd : (x == ("__debug__" : Str)) = false := by decide) : SR Γ sc (.Name x pos) (rC d) := fun X G => by
  obtain ⟨v, u, h1, h2, h3⟩ := h.ex
  exact PE.imp (pe_glob (v := v) (gl_of hg G.sc) (by rw [G.mg]; exact h1) h2 hd) fun σ H Q ⟨b, env, F, d', j, hd, h⟩ => h v (by rw [← Option.some.inj hd]; exact Lk.add h3 j)
/-! ### dicts of the module with text keys -/
structure WDct (Γ : Cs) (x : Str) (kvs : List (Str × D)) : Prop where
  ex : ∃ d es n, Γ.mg x = some (.ref d) ∧ KDict Γ.g.K Γ.w d es n ∧ ∀ z, match kvs.lookup z with
    | some t => isAt t = true ∧ ∃ u, PySem.W.nsIn Γ.g.K d z = some (some u) ∧ RelV (vOf t) u
    | none => PySem.W.nsIn Γ.g.K d z = some none
theorem WDct.some {kvs : List (Str × D)} (h : ∀ z, match kvs.lookup z with
    | some t => isAt t = true ∧ ∃ u, PySem.W.nsIn Γ.g.K d z = some (some u) ∧ RelV (vOf t) u
    | none => PySem.W.nsIn Γ.g.K d z = some none) {z : Str} : ∃ r, PySem.W.nsIn Γ.g.K d z = some r ∧ r.isSome = (kvs.lookup z).isSome := by
  have q := h z
  cases e : kvs.lookup z with
  | none => rw [e] at q; exact ⟨_, q, rfl⟩
  | some t =>
    rw [e] at q
    obtain ⟨_, u, q, _⟩ := q
    exact ⟨_, q, rfl⟩
def inK (kvs : List (Str × D)) : D → Option D
  | .str z => some (.bl (kvs.lookup z).isSome)
  | _ => none
def ninK (kvs : List (Str × D)) : D → Option D
  | .str z => some (.bl (!(kvs.lookup z).isSome))
  | _ => none
def ixK (kvs : List (Str × D)) : D → Option D
  | .str z => kvs.lookup z
  | _ => none
theorem pe_name_ref {X : Cx} {d : Addr} (G : Good Γ sc X) (hm : Γ.mg x = some (.ref d)) (hg : sc.names.lookup x = some .globalImplicit) (hd : (x == ("__debug__" : Str)) = false) : PE X (.Name x pos) (tC (.ref d)) := pe_glob (gl_of hg G.sc) (by rw [G.mg]; exact hm) rfl hd
theorem SR_inK {kvs : List (Str × D)} {px : Pos} (h : WDct Γ x kvs) (hg : sc.names.lookup x = some .globalImplicit) (ha : SR Γ sc e n) (hd : (x == ("__debug__" : Str)) = false := by decide) (hm : behindInMarks .In (.Name x px) = false := by rfl) : SR Γ sc (.Compare e [.In] [.Name x px] pos) (rUn (inK kvs) n) := fun X G => by
  obtain ⟨d, es, k, h1, h2, h3⟩ := h.ex
  refine PE.imp (pe_cmpR (op_in_kd (by rw [G.K, G.w]; exact h2)) (ha X G) (pe_name_ref G h1 hg hd) hm) fun σ H Q ⟨b, env, F, z, j, hz, q⟩ => ?_
  obtain ⟨dx, e1, e2⟩ := Option.bind_eq_some_iff.mp hz
  refine ⟨b, env, F, dx, j, e1, fun v kk => ?_⟩
  have w := kk.vw
  cases w <;> try (cases e2; done)
  rename_i s
  obtain ⟨r, r1, r2⟩ := WDct.some h3 (z := s)
  refine ⟨s, r, rfl, rfl, by rw [G.K]; exact r1, q _ ?_⟩
  rw [← Option.some.inj e2, r2]
  exact Lk.add (fun _ _ => .bl _) j
theorem SR_ninK {kvs : List (Str × D)} {px : Pos} (h : WDct Γ x kvs) (hg : sc.names.lookup x = some .globalImplicit) (ha : SR Γ sc e n) (hd : (x == ("__debug__" : Str)) = false := by decide) (hm : behindInMarks .NotIn (.Name x px) = false := by rfl) : SR Γ sc (.Compare e [.NotIn] [.Name x px] pos) (rUn (ninK kvs) n) := fun X G => by
  obtain ⟨d, es, k, h1, h2, h3⟩ := h.ex
  refine PE.imp (pe_cmpR (op_notIn_kd (by rw [G.K, G.w]; exact h2)) (ha X G) (pe_name_ref G h1 hg hd) hm) fun σ H Q ⟨b, env, F, z, j, hz, q⟩ => ?_
  obtain ⟨dx, e1, e2⟩ := Option.bind_eq_some_iff.mp hz
  refine ⟨b, env, F, dx, j, e1, fun v kk => ?_⟩
  have w := kk.vw
  cases w <;> try (cases e2; done)
  rename_i s
  obtain ⟨r, r1, r2⟩ := WDct.some h3 (z := s)
  refine ⟨s, r, rfl, rfl, by rw [G.K]; exact r1, q _ ?_⟩
  rw [← Option.some.inj e2, r2]
  exact Lk.add (fun _ _ => .bl _) j
theorem lk_at {g : Glb} {b : Bs} {H : Hp} {σ : Sg} {env : En} {F : Prs} {d : D} (h : isAt d = true) (j : SJ g b H σ env F) : Lk g b H σ env F (vOf d) d := Lk.add (fun H Z => rep_at h) j
theorem SR_ixK {kvs : List (Str × D)} {px : Pos} (h : WDct Γ x kvs) (hg : sc.names.lookup x = some .globalImplicit) (ha : SR Γ sc e n) (hs : PlainIx e) (hd : (x == ("__debug__" : Str)) = false := by decide) : SR Γ sc (.Subscript (.Name x px) e pos) (rUn (ixK kvs) n) := fun X G => by
  obtain ⟨d, es, k, h1, h2, h3⟩ := h.ex
  refine PE.imp (pe_ix ix_kdict (pe_name_ref G h1 hg hd) (ha X G) hs) fun σ H Q ⟨b, env, F, z, j, hz, q⟩ => ?_
  obtain ⟨dx, e1, e2⟩ := Option.bind_eq_some_iff.mp hz
  refine ⟨b, env, F, dx, j, e1, fun v kk => ?_⟩
  have w := kk.vw
  cases w <;> try (cases e2; done)
  rename_i s
  have e2' : kvs.lookup s = some z := e2
  have q3 := h3 s
  rw [e2'] at q3
  obtain ⟨ht, u, q1, q2⟩ := q3
  exact ⟨d, s, vOf z, rfl, rfl, by rw [G.K, G.w]; exact ⟨es, k, u, h2.at_, h2.lit, q1, q2⟩, q _ (lk_at ht j)⟩
/-! d.get(k), d.get(k, x) -/
theorem kd_at {X : Cx} {pins : List (Addr × Obj)} {σ : L2.St} {H : Hp} {s : Shared} {d : Addr} {es : Array DictEntry} {k : Nat} (I : Inv X pins σ H s) (K : KDict X.K X.w d es k) : s.TypeIs (.ref d) "dict" ∧ (∀ b, Value.ref d = .ref b → ∃ ob, s.heap.get? b = some ob ∧ ob.dict = none) :=
  have hm := PySem.W.mapOf_K (prog := X.prog) (w := X.w) I.kIn K.at_ K.lit
  ⟨hm.typeIs, hm.noDict⟩
def tKGet1 (K : PySem.W.Frag) (d : Addr) (ty : TE) : TE := fun σ H Q => ty σ H fun y H2 => ∃ z r, y = .str z ∧ PySem.W.nsIn K d z = some r ∧ ∀ v, (∀ u, r = some u → RelV v u) → (r = none → v = .non) → Q v H2
theorem pe_kget1 {X : Cx} {d : Addr} {es : Array DictEntry} {k : Nat} {o : Expr} {apos cpos : Pos} {ty : TE} (K : KDict X.K X.w d es k) (ho : PE X o (tC (.ref d))) (he : PE X e ty) (m : M1 X o "get" apos e cpos) : PE X (.Call (.Attribute o "get" apos) [e] [] cpos) (fun σ H Q => ty σ H fun y H2 => ∃ z r v, y = .str z ∧ PySem.W.nsIn X.K d z = some r ∧ RelV v (r.getD .none) ∧ Q v H2) := by
  refine ⟨fun pins s σ H Q I h => ?_⟩
  refine wpAny_Call_method m.base m.few m.line PySem.F.plainAttrs_dict PySem.F.slot_dict_get PySem.F.type_dict_get (thn (ho.run pins s σ H (fun v H1 => v = .ref d ∧ H1 = H) I ⟨rfl, rfl⟩) fun u s1 ⟨x, H1, I1, rx, ex, eH⟩ => ?_)
  subst ex eH
  obtain rfl : u = Value.ref d := rx
  obtain ⟨t1, t2⟩ := kd_at I1 K
  refine ⟨t1, t2, ?_⟩
  rw [m.trees]
  refine Calls.callWith_builtin rfl (Calls.evalArgs_plain (Calls.spliced_cons (thn (he.run pins s1 σ _ _ I1 h) fun iv s2 ⟨y, H2, I2, ry, z, r, v, ey, hr, rv, q2⟩ => Calls.spliced_nil ?_)))
  subst ey
  obtain ⟨t, rfl⟩ := (show ∃ t, iv = Value.str z t from ry)
  have hm := PySem.W.mapOf_K (prog := X.prog) (w := X.w) I2.kIn K.at_ K.lit
  refine call_meetsIn PySem.F.slot_dict_get hm.typeIs PySem.F.entry_dict_get (PySem.F.args_dict_get_2 _ _) (meets_dict_get (strKind X.prog X.w) d (strKind_is X.prog X.w z t) K.low) ⟨_, hm, ⟨v, H2, I2.tok _, ?_, q2⟩⟩
  rw [PySem.W.find_K K.at_ hr]
  exact rv
theorem pe_kget2 {X : Cx} {d : Addr} {es : Array DictEntry} {k : Nat} {o : Expr} {apos cpos : Pos} {ty tx : TE} (K : KDict X.K X.w d es k) (ho : PE X o (tC (.ref d))) (he : PE X e ty) (hf : PE X f tx) (m : M2 X o "get" apos e f cpos) : PE X (.Call (.Attribute o "get" apos) [e, f] [] cpos) (fun σ H Q => ty σ H fun y H2 => tx σ H2 fun z' H3 => ∃ z r v, y = .str z ∧ PySem.W.nsIn X.K d z = some r ∧ (∀ u, RelV z' u → RelV v (r.getD u)) ∧ Q v H3) := by
  refine ⟨fun pins s σ H Q I h => ?_⟩
  refine wpAny_Call_method m.base m.few m.line PySem.F.plainAttrs_dict PySem.F.slot_dict_get PySem.F.type_dict_get (thn (ho.run pins s σ H (fun v H1 => v = .ref d ∧ H1 = H) I ⟨rfl, rfl⟩) fun u s1 ⟨x, H1, I1, rx, ex, eH⟩ => ?_)
  subst ex eH
  obtain rfl : u = Value.ref d := rx
  obtain ⟨t1, t2⟩ := kd_at I1 K
  refine ⟨t1, t2, ?_⟩
  rw [m.trees]
  refine Calls.callWith_builtin rfl (Calls.evalArgs_plain (Calls.spliced_cons (thn (he.run pins s1 σ _ _ I1 h) fun iv s2 ⟨y, H2, I2, ry, q2⟩ =>
    Calls.spliced_cons (thn (hf.run pins s2 σ H2 _ I2 q2) fun fv s3 ⟨z', H3, I3, rz, z, r, v, ey, hr, rv, q3⟩ => Calls.spliced_nil ?_))))
  subst ey
  obtain ⟨t, rfl⟩ := (show ∃ t, iv = Value.str z t from ry)
  have hm := PySem.W.mapOf_K (prog := X.prog) (w := X.w) I3.kIn K.at_ K.lit
  refine call_meetsIn PySem.F.slot_dict_get hm.typeIs PySem.F.entry_dict_get (PySem.F.args_dict_get_3 _ _ _) (meets_dict_get_default (strKind X.prog X.w) d (strKind_is X.prog X.w z t) K.low fv) ⟨_, hm, ⟨v, H3, I3.tok _, ?_, q3⟩⟩
  rw [PySem.W.find_K K.at_ hr]
  exact rv _ rz
def getK (kvs : List (Str × D)) : D → Option D
  | .str z => some ((kvs.lookup z).getD .non)
  | _ => none
def getK2 (kvs : List (Str × D)) (x y : D) : Option D := match x with
  | .str z => some ((kvs.lookup z).getD y)
  | _ => none
theorem SR_get1 {kvs : List (Str × D)} {px apos : Pos} (h : WDct Γ x kvs) (hg : sc.names.lookup x = some .globalImplicit) (ha : SR Γ sc e n) (m : ∀ X : Cx, M1 X (.Name x px) "get" apos e pos) (hd : (x == ("__debug__" : Str)) = false := by decide) : SR Γ sc (.Call (.Attribute (.Name x px) "get" apos) [e] [] pos) (rUn (getK kvs) n) := fun X G => by
  obtain ⟨d, es, k, h1, h2, h3⟩ := h.ex
  refine PE.imp (pe_kget1 (by rw [G.K, G.w]; exact h2) (pe_name_ref G h1 hg hd) (ha X G) (m X)) fun σ H Q ⟨b, env, F, z, j, hz, q⟩ => ?_
  obtain ⟨dx, e1, e2⟩ := Option.bind_eq_some_iff.mp hz
  refine ⟨b, env, F, dx, j, e1, fun v kk => ?_⟩
  have w := kk.vw
  cases w <;> try (cases e2; done)
  rename_i s
  have e2' : some ((kvs.lookup s).getD .non) = some z := e2
  have q3 := h3 s
  rw [G.K]
  cases eq : kvs.lookup s with
  | none =>
    rw [eq] at q3 e2'
    refine ⟨s, none, .non, rfl, q3, rfl, q _ ?_⟩
    rw [← Option.some.inj e2']
    exact Lk.add (fun _ _ => .non) j
  | some t =>
    rw [eq] at q3 e2'
    obtain ⟨ht, u, q1, q2⟩ := q3
    refine ⟨s, some u, vOf t, rfl, q1, q2, q _ ?_⟩
    rw [← Option.some.inj e2']
    exact lk_at ht j
theorem SR_get2 {kvs : List (Str × D)} {px apos : Pos} (h : WDct Γ x kvs) (hg : sc.names.lookup x = some .globalImplicit) (ha : SR Γ sc e na) (hb : SR Γ sc f nb) (m : ∀ X : Cx, M2 X (.Name x px) "get" apos e f pos) (hd : (x == ("__debug__" : Str)) = false := by decide) : SR Γ sc (.Call (.Attribute (.Name x px) "get" apos) [e, f] [] pos) (rBin (getK2 kvs) na nb) := fun X G => by
  obtain ⟨d, es, k, h1, h2, h3⟩ := h.ex
  refine PE.imp (pe_kget2 (by rw [G.K, G.w]; exact h2) (pe_name_ref G h1 hg hd) (ha X G) (hb X G) (m X)) fun σ H Q ⟨b, env, F, z, j, hz, q⟩ => ?_
  obtain ⟨dx, dy, e1, e3, e2⟩ := rBin_some hz
  refine ⟨b, env, F, dx, j, e1, fun v kk => ⟨b, env, F, dy, j, e3, fun v2 k2 => ?_⟩⟩
  have w := kk.vw
  cases w <;> try (cases e2; done)
  rename_i s
  have e2' : some ((kvs.lookup s).getD dy) = some z := e2
  have q3 := h3 s
  rw [G.K]
  cases eq : kvs.lookup s with
  | none =>
    rw [eq] at q3 e2'
    refine ⟨s, none, v2, rfl, q3, fun u ru => ru, q _ ?_⟩
    rw [← Option.some.inj e2']
    exact k2
  | some t =>
    rw [eq] at q3 e2'
    obtain ⟨ht, u, q1, q2⟩ := q3
    refine ⟨s, some u, vOf t, rfl, q1, fun _ _ => q2, q _ ?_⟩
    rw [← Option.some.inj e2']
    exact lk_at ht j
/-! ### d[k] of a dict that one has -/
theorem ix_dct {X : Cx} (hu : X.A.units + 1 < cLine) : IxR X (fun x y H Q => ∃ a v, x = .ref a ∧ DGet H a y (some v) ∧ Q v H) := by
  intro value slice pins s σ H x y v u Q I rx ry h hs
  obtain ⟨a, r, rfl, hg, q⟩ := h
  obtain rfl : v = Value.ref a := rx
  have ty : s.TypeIs (.ref a) "dict" := by
    rcases hg with ⟨kvs, k, e, _, _⟩ | ⟨kvs, k, b, e, _, _, _⟩
    · exact (isD_at I (.inl ⟨kvs, e⟩)).1
    · exact (isD_at I (.inr ⟨kvs, e⟩)).1
  exact tail_any ty slot_dict_getitem.lookup (d_getItem hu I hg ry fun w' s' I' rw' => ⟨r, H, I', rw', q⟩) hs
def itD (d i : D) : Option D := match d with
  | .dct _ kvs => (keyOf i).bind fun k => kvs.lookup k
  | _ => ixD d i
abbrev rSub (K : PySem.W.Frag) : R2 := fun x y H Q => rIx K x y H Q ∨ (fun x y H Q => ∃ a v, x = .ref a ∧ DGet H a y (some v) ∧ Q v H) x y H Q
theorem it_lk {g : Glb} {b : Bs} {H : Hp} {σ : Sg} {env : En} {F : Prs} {v u : V} {d i z : D} {Q : VK} (k : Lk g b H σ env F v d) (ki : Vw g H u i) (e : itD d i = some z) (h : ∀ w, Lk g b H σ env F w z → Q w H) : rSub g.K v u H Q := by
  unfold itD at e
  split at e
  · rename_i o kvs
    obtain ⟨key, h1, h2⟩ := Option.bind_eq_some_iff.mp e
    obtain ⟨a, fs, rfl, h3, h4, h5⟩ := k.dct
    obtain ⟨w, h6, h7⟩ := h5 key z h2
    exact .inr ⟨a, w, rfl, .inl ⟨fs, key, h3, keyOf_v ki h1, by rw [valV_lookup, h6]⟩, h w h7⟩
  · exact .inl (ix_lk k ki e h)
theorem SR_sub (ha : SR Γ sc a na) (hb : SR Γ sc c nb) (hs : PlainIx c) : SR Γ sc (.Subscript a c pos) (rBin itD na nb) := fun X G =>
  PE.imp (pe_ix (ix_seq.or (ix_dct G.hu1)) (ha X G) (hb X G) hs) fun σ H Q ⟨b, env, F, z, j, hd, h⟩ => by
    obtain ⟨x, y, h1, h2, h3⟩ := rBin_some hd
    exact ⟨b, env, F, x, j, h1, fun v k1 => ⟨b, env, F, y, j, h2, fun u k2 => by rw [G.K]; exact it_lk k1 k2.vw h3 h⟩⟩
def mSub (ma mb : M D) : M D := fun env => (ma env).bind fun d e => (mb e).bind fun i e => match itD (frz d) i with
  | some z => if isFrz z = true then .ok z e else .bad
  | none => .bad
theorem SE_sub {ma mb : M D} (ha : SE Γ sc pa a ma) (hb : SE Γ sc pb c mb) (hs : PlainIx c) : SE Γ sc (pa && pb) (.Subscript a c pos) (mSub ma mb) := fun X W G T =>
  PE.imp (pe_ix (ix_seq.or (ix_dct G.hu1)) (ha X W G T) (hb X W G T) hs) fun σ H Q ⟨b, env, F, j, h⟩ => ⟨b, env, F, j, PoE.into (PoE Γ.g b (pa && pb) W σ H F Q) (fun _ _ _ h => h) (fun h => h) h fun dx e1 x H1 h j1 x1 =>
    ⟨b, e1, (x, dx) :: F, j1, PoE.into (PoE Γ.g b (pa && pb) W σ H F Q) (fun _ _ _ h => XW.more h) (fun h => h) h fun dy e2 y H2 h j2 x2 => by
      have j3 : SJ Γ.g b H2 σ e2 ((x, frz dx) :: F) := SJ.freeze j2.drop
      cases q : itD (frz dx) dy with
      | none => rw [q] at h; exact h.elim
      | some z =>
        rw [q] at h
        dsimp only at h
        by_cases hf : isFrz z = true
        · rw [if_pos hf] at h
          rw [G.K]
          refine it_lk j3.lkF j2.vwF q fun w k => ?_
          exact h w H2 (SJ.drop ((k.own hf).perm (.swap ..))) (ext_and x1 x2)
        · rw [if_neg hf] at h
          exact h.elim⟩⟩
/-- a place among the names, an index that may change things: read when the index is known -/
def mSubN (i : Nat) (mb : M D) : M D := fun env => match env[i]? with
  | some (some _) => (mb env).bind fun k e => (match e[i]? with
    | some (some d) => (match itD d k with
      | some z => if isFrz z = true then .ok z e else .bad
      | none => .bad)
    | _ => .bad)
  | _ => .bad
theorem SE_subN (i : Nat) {mb : M D} {px : Pos} (hN : Γ.N[i]? = some x) (hv : Vis sc x) (hb : SE Γ sc pb c mb) (hs : PlainIx c) (hd : (x == ("__debug__" : Str)) = false := by decide) (hcd : (x == ("__classdict__" : Str)) = false := by decide) : SE Γ sc pb (.Subscript (.Name x px) c pos) (mSubN i mb) := fun X W G T =>
  PE.imp (pe_ix (r := rSub X.K) (ix_seq.or (ix_dct G.hu1)) (pe_var (pos := px) (i := i) (by rw [G.N]; exact hN) (by rw [G.sc]; exact hv) hd hcd) (hb X W G T) hs) fun σ H Q ⟨b, env, F, j, h⟩ => by
    unfold mSubN at h
    split at h
    · rename_i d0 e0
      obtain ⟨v, h1, _⟩ := j.lk e0
      refine ⟨v, h1, b, env, F, j, PoE.into (PoE Γ.g b pb W σ H F Q) (fun _ _ _ h => h) (fun h => h) h fun k e u H2 h j2 x2 => ?_⟩
      split at h
      · rename_i d e2
        split at h
        · rename_i z q
          by_cases hf : isFrz z = true
          · rw [if_pos hf] at h
            obtain ⟨v', h3, k3⟩ := (SJ.drop j2).lk e2
            obtain rfl : v = v' := by
              rw [h1] at h3
              exact Option.some.inj (Option.some.inj h3)
            rw [G.K]
            exact it_lk k3 j2.vwF q fun w kk => h w H2 (kk.own hf) x2
          · rw [if_neg hf] at h
            exact h.elim
        · exact h.elim
      · exact h.elim
    · exact h.elim
end
end TL
end

-- text TL17
section
set_option Elab.async false
set_option linter.all false
set_option maxRecDepth 100000
set_option maxHeartbeats 4000000
namespace TL
open PySem PySem.Spec PyProof.Rows L2

theorem perm_take {α : Type} : ∀ {l : List α} {j : Nat} {x : α}, l[j]? = some x → l.Perm (x :: l.eraseIdx j)
  | [], _, _, h => by simp at h
  | a :: l, 0, x, h => by
    obtain rfl := Option.some.inj h
    exact .refl _
  | a :: l, j + 1, x, h => ((perm_take (l := l) (j := j) (by simpa using h)).cons a).trans (.swap ..)
theorem perm_set {α : Type} : ∀ {l : List α} {j : Nat} {x y : α}, l[j]? = some x → (y :: l).Perm (x :: l.set j y)
  | [], _, _, _, h => by simp at h
  | a :: l, 0, x, y, h => by
    obtain rfl := Option.some.inj h
    exact .swap ..
  | a :: l, j + 1, x, y, h => (List.Perm.swap ..).trans (((perm_set (l := l) (j := j) (y := y) (by simpa using h)).cons a).trans (.swap ..))
theorem zip_erase {α β : Type} : ∀ (xs : List α) (ys : List β) (j : Nat), (xs.eraseIdx j).zip (ys.eraseIdx j) = (xs.zip ys).eraseIdx j
  | [], ys, j => by simp
  | x :: xs, [], j => by simp
  | x :: xs, y :: ys, 0 => rfl
  | x :: xs, y :: ys, j + 1 => congrArg ((x, y) :: ·) (zip_erase xs ys j)
theorem zip_set {α β : Type} : ∀ (xs : List α) (ys : List β) (j : Nat) (x : α) (y : β), (xs.set j x).zip (ys.set j y) = (xs.zip ys).set j (x, y)
  | [], ys, j, x, y => by simp
  | a :: xs, [], j, x, y => by simp
  | a :: xs, c :: ys, 0, x, y => rfl
  | a :: xs, c :: ys, j + 1, x, y => congrArg ((a, c) :: ·) (zip_set xs ys j x y)
theorem zip_get {α β : Type} {xs : List α} {ys : List β} {j : Nat} {x : α} {y : β} (h : xs[j]? = some x) (h' : ys[j]? = some y) : (xs.zip ys)[j]? = some (x, y) := by
  rw [List.getElem?_zip_eq_some]
  exact ⟨h, h'⟩
section
variable {g : Glb} {b : Bs} {H H' : Hp} {σ : Sg} {env : En} {F : Prs} {v : V}
/-- an owned list, an item taken out -/
theorem SJ.popAt {a : Addr} {ds : List D} {j : Nat} {d : D} (jj : SJ g b H σ env ((.ref a, .lst true ds) :: F)) (hd : ds[j]? = some d) : ∃ vs y, H a = some (.lst vs) ∧ vs.length = ds.length ∧ vs[j]? = some y ∧ SJ g b (upd H a (.lst (vs.eraseIdx j))) σ env ((y, d) :: (.ref a, .lst true (ds.eraseIdx j)) :: F) := by
  obtain ⟨a', vs, e, h, l, j1⟩ := jj.openLst
  obtain rfl := V.ref.inj e
  obtain ⟨lt, _⟩ := List.getElem?_eq_some_iff.mp hd
  obtain ⟨y, hv⟩ : ∃ y, vs[j]? = some y := ⟨_, List.getElem?_eq_getElem (by rw [l]; exact lt)⟩
  refine ⟨vs, y, h, l, hv, ?_⟩
  have j2 : SJ g b H σ env ((.ref a, .raw) :: ((vs.eraseIdx j).zip (ds.eraseIdx j) ++ ((y, d) :: F))) := by
    refine j1.perm (List.Perm.cons _ ?_)
    rw [zip_erase]
    exact ((perm_take (zip_get hv hd)).append_right F).trans (List.perm_middle (l₁ := (vs.zip ds).eraseIdx j)).symm
  exact (SJ.closeLst (by rw [List.length_eraseIdx, List.length_eraseIdx, l]) j2).perm (.swap ..)
/-- an owned list, an item stored -/
theorem SJ.setAt {a : Addr} {ds : List D} {j : Nat} {y : V} {d : D} (jj : SJ g b H σ env ((y, d) :: (.ref a, .lst true ds) :: F)) (hd : j < ds.length) : ∃ vs, H a = some (.lst vs) ∧ vs.length = ds.length ∧ SJ g b (upd H a (.lst (vs.set j y))) σ env ((.ref a, .lst true (ds.set j d)) :: F) := by
  obtain ⟨a', vs, e, h, l, j1⟩ := SJ.openLst (F := (y, d) :: F) (jj.perm (.swap ..))
  obtain rfl := V.ref.inj e
  refine ⟨vs, h, l, SJ.closeLst (by rw [List.length_set, List.length_set, l]) ?_⟩
  rw [zip_set]
  obtain ⟨u, hv⟩ : ∃ u, vs[j]? = some u := ⟨_, List.getElem?_eq_getElem (by rw [l]; exact hd)⟩
  have hz := zip_get hv (List.getElem?_eq_getElem hd)
  have p1 : ((.ref a, .raw) :: (vs.zip ds ++ (y, d) :: F) : Prs).Perm ((u, ds[j]) :: (.ref a, .raw) :: ((vs.zip ds).set j (y, d) ++ F)) := by
    refine List.Perm.trans (List.Perm.cons _ ?_) (.swap ..)
    exact List.perm_middle.trans ((perm_set (y := (y, d)) hz).append_right F)
  exact SJ.drop (j1.perm p1)
theorem SJ.ne {a c : Addr} {ds : List D} (j : SJ g b H σ env ((.ref a, .raw) :: (.ref c, .lst true ds) :: F)) : a ≠ c := by
  obtain ⟨ps, s, j⟩ := j
  obtain ⟨A, r, n, w⟩ := j.perm (qs := (.ref a, .raw) :: (.ref c, .lst true ds) :: (F ++ ps)) List.perm_append_comm
  obtain ⟨B, C, rfl, h1, h2⟩ := r.inv
  obtain ⟨B', C', rfl, h3, h4⟩ := h2.inv
  cases h1 with
  | raw =>
    cases h3 with
    | lstO =>
      intro e
      subst e
      exact (List.nodup_cons.mp n).1 (by simp)
/-- a list within an owned list -/
theorem SJ.popIn {a : Addr} {ds ys : List D} {k j : Nat} {d : D} (jj : SJ g b H σ env ((.ref a, .lst true ds) :: F)) (hk : ds[k]? = some (.lst true ys)) (hd : ys[j]? = some d) : ∃ vs c ws y, H a = some (.lst vs) ∧ vs.length = ds.length ∧ vs[k]? = some (.ref c) ∧ H c = some (.lst ws) ∧ ws.length = ys.length ∧ ws[j]? = some y ∧
    SJ g b (upd H c (.lst (ws.eraseIdx j))) σ env ((y, d) :: (.ref a, .lst true (ds.set k (.lst true (ys.eraseIdx j)))) :: F) := by
  obtain ⟨a', vs, e, h, l, j1⟩ := jj.openLst
  obtain rfl := V.ref.inj e
  obtain ⟨lt, _⟩ := List.getElem?_eq_some_iff.mp hk
  obtain ⟨u, hv⟩ : ∃ u, vs[k]? = some u := ⟨_, List.getElem?_eq_getElem (by rw [l]; exact lt)⟩
  have hz := zip_get hv hk
  have j2 : SJ g b H σ env ((u, .lst true ys) :: (.ref a, .raw) :: ((vs.zip ds).eraseIdx k ++ F)) := j1.perm (((perm_take hz).append_right F).cons _ |>.trans (.swap ..))
  obtain ⟨c, _, ec, _, _, _⟩ := j2.openLst
  rw [ec] at j2 hv hz
  obtain ⟨ws, y, h3, l3, hy, j3⟩ := j2.popAt hd
  have ne : a ≠ c := SJ.ne (j2.perm (.swap ..))
  refine ⟨vs, c, ws, y, h, l, hv, h3, l3, hy, ?_⟩
  have h4 : upd H c (.lst (ws.eraseIdx j)) a = some (.lst vs) := by rw [upd_ne ne]; exact h
  have j4 : SJ g b (upd H c (.lst (ws.eraseIdx j))) σ env ((.ref a, .raw) :: (vs.zip (ds.set k (.lst true (ys.eraseIdx j))) ++ ((y, d) :: F))) := by
    refine j3.perm ?_
    have e1 : vs.zip (ds.set k (.lst true (ys.eraseIdx j))) = (vs.zip ds).set k (.ref c, .lst true (ys.eraseIdx j)) := by
      have := zip_set vs ds k (.ref c) (.lst true (ys.eraseIdx j))
      rw [show vs.set k (.ref c) = vs from by
        refine List.ext_getElem? fun i => ?_
        by_cases e : k = i
        · subst e
          rw [List.getElem?_set_self (by rw [l]; exact lt), hv]
        · rw [List.getElem?_set_ne e]] at this
      exact this
    rw [e1]
    have p2 : ((.ref c, .lst true (ys.eraseIdx j)) :: (vs.zip ds).eraseIdx k : Prs).Perm ((vs.zip ds).set k (.ref c, .lst true (ys.eraseIdx j))) := by
      have q1 := perm_set (y := ((.ref c, .lst true (ys.eraseIdx j)) : V × D)) hz
      have q2 : ((.ref c, .lst true (ys.eraseIdx j)) :: vs.zip ds : Prs).Perm ((.ref c, .lst true ys) :: (.ref c, .lst true (ys.eraseIdx j)) :: (vs.zip ds).eraseIdx k) := ((perm_take hz).cons _).trans (.swap ..)
      exact (q2.symm.trans q1).cons_inv
    have p3 : ((y, d) :: (.ref c, .lst true (ys.eraseIdx j)) :: (.ref a, .raw) :: ((vs.zip ds).eraseIdx k ++ F) : Prs).Perm ((y, d) :: (.ref a, .raw) :: ((vs.zip ds).set k (.ref c, .lst true (ys.eraseIdx j)) ++ F)) :=
      List.Perm.cons _ ((List.Perm.swap ..).trans (List.Perm.cons _ (p2.append_right F)))
    exact p3.trans ((List.Perm.swap ..).trans (List.Perm.cons _ List.perm_middle.symm))
  have j5 := SJ.closeLst (by rw [List.length_set]; exact l) j4
  rw [upd_eta h4] at j5
  exact j5.perm (.swap ..)
end
end TL
end

-- text TL18
section
set_option Elab.async false
set_option linter.all false
set_option maxRecDepth 100000
set_option maxHeartbeats 4000000
namespace TL
open PySem PySem.Spec PyProof.Rows L2

section
variable {Γ : Cs} {sc : Scope} {p pa pb pc : Bool} {a c e f : Expr} {es : List Expr} {ma mb : M D} {pos apos : Pos} {x : Str}
/-- a name's owned list, changed by what the argument is -/
def mChg (i : Nat) (k : List D → D → Option (D × List D)) (ma : M D) : M D := fun env => match env[i]? with
  | some (some (.lst true _)) => (ma env).bind fun d e => (match e[i]? with
    | some (some (.lst true ds)) => (match k ds d with
      | some (r, ds') => .ok r (e.set i (some (.lst true ds')))
      | none => .bad)
    | _ => .bad)
  | _ => .bad
/-- what a list method does, by trees -/
def ChgOp (g : Glb) (r : V → List V → Hp → VK → Prop) (k : List D → D → Option (D × List D)) : Prop := ∀ (b : Bs) (H : Hp) (σ : Sg) (env : En) (F : Prs) (a : Addr) (y : V) (dy dr : D) (ds ds' : List D) (Q : VK), SJ g b H σ env ((y, dy) :: (.ref a, .lst true ds) :: F) → k ds dy = some (dr, ds') →
  (∀ v H', SJ g b H' σ env ((v, dr) :: (.ref a, .lst true ds') :: F) → Q v H') → r (.ref a) [y] H Q
theorem rd_chg {X : Cx} {g : Glb} {W : L2.WX} {i : Nat} {k : List D → D → Option (D × List D)} {r : V → List V → Hp → VK → Prop} (hK : X.K = g.K) (hr : ChgOp g r k) {σ : Sg} {H : Hp} {Q : VK} (h : rdE g false W (mChg i k ma) σ H Q) :
    tBM X.K "list" r (tVar i) (tCons (rdE g pa W ma) tNil) σ H Q := by
  obtain ⟨b, env, F, j, h⟩ := h
  unfold mChg at h
  split at h
  · rename_i o0 e0
    obtain ⟨v, h1, k1⟩ := j.lk e0
    obtain ⟨a, vs, ev, hs, _, _⟩ := k1.lst
    refine ⟨v, h1, ?_, b, env, F, j, PoE.into (PoE g b false W σ H F Q) (fun _ _ _ h => h) (fun h => h) h fun d e u H2 h j2 x2 => ?_⟩
    · rw [ev, hK]
      exact .inl ⟨rfl, vs, hs⟩
    · split at h
      · rename_i ds e2
        split at h
        · rename_i dr ds' q
          obtain ⟨v', h3, j3⟩ := j2.get e2
          obtain rfl : v = v' := by
            rw [h1] at h3
            exact Option.some.inj (Option.some.inj h3)
          rw [ev] at j3 h1 ⊢
          refine hr b H2 σ (e.set i none) F a u d dr ds ds' Q (j3.perm (.swap ..)) q fun w H' j4 => ?_
          have j5 := SJ.put (F := (w, dr) :: F) (set_none_get e2) h1 (j4.perm (.swap ..))
          rw [set_none_set] at j5
          exact h w H' j5 fun z => by cases z
        · exact h.elim
      · exact h.elim
  · exact h.elim
theorem E_chg {i : Nat} {k : List D → D → Option (D × List D)} {r : V → List V → Hp → VK → Prop} {id : String} {m : Str} {px : Pos} (pla : PlainAttrs "list") (slot : Slot "list" m id) (hty : typeOf (.builtin id) = pure (.type "method_descriptor")) (hm : ∀ X, Good Γ sc X → MtR X id r) (hr : ChgOp Γ.g r k)
    (hN : Γ.N[i]? = some x) (hv : Vis sc x) (ha : SE Γ sc pa e ma) (hbase : ∀ X : Cx, attributeBase (.Name x px) m X.env (eval (.Name x px) X.env) = eval (.Name x px) X.env := by intro _; rfl)
    (hfew : ∀ X : Cx, ((backTo pos (starEach [e] X.env)).all (fun x => !x.1) && (backToKw pos (keywordEach [] X.env)).all (fun x => x.1.isSome) && decide (([e] : List Expr).length + ([] : List Keyword).length + (if ([] : List Keyword).isEmpty then 0 else 1) < 30)) = true := by intro _; rfl)
    (hline : (apos.endLine == pos.line) = true := by rfl) (hs : ∀ X : Cx, starEach [e] X.env = (false, eval e X.env) :: starEach [] X.env := by intro _; rfl) (hd : (x == ("__debug__" : Str)) = false := by decide) (hcd : (x == ("__classdict__" : Str)) = false := by decide) :
    SE Γ sc false (.Call (.Attribute (.Name x px) m apos) [e] [] pos) (mChg i k ma) := fun X W G T =>
  PE.imp (pe_bm pla slot hty (hm X G) (pe_var (pos := px) (i := i) (by rw [G.N]; exact hN) (by rw [G.sc]; exact hv) hd hcd) (pa_cons (ha X W G T) pa_nil (hs X)) (hbase X) (hfew X) hline (hs X) rfl) fun σ H Q => rd_chg G.K hr
def kApp (ds : List D) (d : D) : Option (D × List D) := if ds.length < sizeLine then some (.non, ds ++ [d]) else none
theorem chg_app {g : Glb} : ChgOp g rAppend kApp := fun b H σ env F a y dy dr ds ds' Q j e q => by
  unfold kApp at e
  by_cases hz : ds.length < sizeLine
  · rw [if_pos hz] at e
    cases Option.some.inj e
    obtain ⟨vs, h1, l1, j1⟩ := j.append
    exact ⟨a, vs, y, rfl, rfl, h1, by rw [l1]; exact hz, q _ _ (j1.add fun _ => .non)⟩
  · rw [if_neg hz] at e; cases e
def kExt (ds : List D) (d : D) : Option (D × List D) := match d with
  | .lst true es => if ds.length + es.length ≤ sizeLine then some (.non, ds ++ es) else none
  | _ => none
theorem chg_ext {g : Glb} : ChgOp g rExtend kExt := fun b H σ env F a y dy dr ds ds' Q j e q => by
  unfold kExt at e
  split at e
  · rename_i es
    by_cases hz : ds.length + es.length ≤ sizeLine
    · rw [if_pos hz] at e
      cases Option.some.inj e
      obtain ⟨c, ws, rfl, h1, l1, j1⟩ := SJ.openLst j
      obtain ⟨a', vs, ea, h2, l2, j2⟩ := SJ.openLst (F := (.ref c, .raw) :: (ws.zip es ++ F)) (j1.perm ((List.Perm.cons _ List.perm_middle).trans (.swap ..)))
      obtain rfl := V.ref.inj ea
      refine ⟨a, c, vs, ws, rfl, rfl, h2, h1, by rw [l1, l2]; exact hz, q _ _ (SJ.add (fun _ => .non) (SJ.closeLst (by rw [List.length_append, List.length_append, l1, l2]) ?_))⟩
      rw [List.zip_append l2, List.append_assoc]
      have j3 : SJ g b H σ env ((.ref c, .raw) :: (.ref a, .raw) :: (vs.zip ds ++ (ws.zip es ++ F))) := j2.perm ((List.Perm.cons _ List.perm_middle).trans (.swap ..))
      exact j3.drop
    · rw [if_neg hz] at e; cases e
  · cases e
def kPop (ds : List D) (d : D) : Option (D × List D) := match d with
  | .int i => if -(2 ^ 63) ≤ i ∧ i < 2 ^ 63 then (seqIndex? i ds.length).bind fun j => (ds[j]?).map fun r => (r, ds.eraseIdx j) else none
  | _ => none
theorem chg_pop {g : Glb} : ChgOp g rPopAt kPop := fun b H σ env F a y dy dr ds ds' Q j e q => by
  unfold kPop at e
  split at e
  · rename_i i
    by_cases hz : -(2 ^ 63) ≤ i ∧ i < 2 ^ 63
    · rw [if_pos hz] at e
      obtain ⟨n, h1, h2⟩ := Option.bind_eq_some_iff.mp e
      obtain ⟨r, h3, h4⟩ := Option.map_eq_some_iff.mp h2
      cases h4
      have w := j.vwF
      cases w
      obtain ⟨vs, u, h5, l5, h6, j6⟩ := SJ.popAt j.drop h3
      exact ⟨a, vs, i, n, u, rfl, rfl, h5, hz.1, hz.2, by rw [l5]; exact h1, h6, q _ _ j6⟩
    · rw [if_neg hz] at e; cases e
  · cases e
/-- xs.append(e), xs.extend(e), xs.pop(e) -/
theorem E_append {i : Nat} {px : Pos} (hN : Γ.N[i]? = some x) (hv : Vis sc x) (ha : SE Γ sc pa e ma) (hfew : ∀ X : Cx, ((backTo pos (starEach [e] X.env)).all (fun x => !x.1) && (backToKw pos (keywordEach [] X.env)).all (fun x => x.1.isSome) && decide (([e] : List Expr).length + ([] : List Keyword).length + (if ([] : List Keyword).isEmpty then 0 else 1) < 30)) = true := by intro _; rfl)
    (hline : (apos.endLine == pos.line) = true := by rfl) (hs : ∀ X : Cx, starEach [e] X.env = (false, eval e X.env) :: starEach [] X.env := by intro _; rfl) (hd : (x == ("__debug__" : Str)) = false := by decide) (hcd : (x == ("__classdict__" : Str)) = false := by decide) : SE Γ sc false (.Call (.Attribute (.Name x px) "append" apos) [e] [] pos) (mChg i kApp ma) :=
  E_chg PySem.F.plainAttrs_list PySem.F.slot_list_append PySem.F.type_list_append (fun X G => mt_append) chg_app hN hv ha (fun _ => rfl) hfew hline hs hd hcd
theorem E_extend {i : Nat} {px : Pos} (hN : Γ.N[i]? = some x) (hv : Vis sc x) (ha : SE Γ sc pa e ma) (hfew : ∀ X : Cx, ((backTo pos (starEach [e] X.env)).all (fun x => !x.1) && (backToKw pos (keywordEach [] X.env)).all (fun x => x.1.isSome) && decide (([e] : List Expr).length + ([] : List Keyword).length + (if ([] : List Keyword).isEmpty then 0 else 1) < 30)) = true := by intro _; rfl)
    (hline : (apos.endLine == pos.line) = true := by rfl) (hs : ∀ X : Cx, starEach [e] X.env = (false, eval e X.env) :: starEach [] X.env := by intro _; rfl) (hd : (x == ("__debug__" : Str)) = false := by decide) (hcd : (x == ("__classdict__" : Str)) = false := by decide) : SE Γ sc false (.Call (.Attribute (.Name x px) "extend" apos) [e] [] pos) (mChg i kExt ma) :=
  E_chg PySem.F.plainAttrs_list PySem.F.slot_list_extend PySem.F.type_list_extend (fun X G => mt_extend) chg_ext hN hv ha (fun _ => rfl) hfew hline hs hd hcd
theorem E_pop {i : Nat} {px : Pos} (hN : Γ.N[i]? = some x) (hv : Vis sc x) (ha : SE Γ sc pa e ma) (hfew : ∀ X : Cx, ((backTo pos (starEach [e] X.env)).all (fun x => !x.1) && (backToKw pos (keywordEach [] X.env)).all (fun x => x.1.isSome) && decide (([e] : List Expr).length + ([] : List Keyword).length + (if ([] : List Keyword).isEmpty then 0 else 1) < 30)) = true := by intro _; rfl)
    (hline : (apos.endLine == pos.line) = true := by rfl) (hs : ∀ X : Cx, starEach [e] X.env = (false, eval e X.env) :: starEach [] X.env := by intro _; rfl) (hd : (x == ("__debug__" : Str)) = false := by decide) (hcd : (x == ("__classdict__" : Str)) = false := by decide) : SE Γ sc false (.Call (.Attribute (.Name x px) "pop" apos) [e] [] pos) (mChg i kPop ma) :=
  E_chg PySem.F.plainAttrs_list PySem.F.slot_list_pop PySem.F.type_list_pop (fun X G => mt_popAt) chg_pop hN hv ha (fun _ => rfl) hfew hline hs hd hcd
/-- xs[k].pop(j), k and j written -/
def mPopIn (i k j : Nat) : M D := fun env => match env[i]? with
  | some (some (.lst true ds)) => (match ds[k]? with
    | some (.lst true ys) => (match ys[j]? with
      | some d => if k < 2 ^ 62 ∧ j < 2 ^ 62 then .ok d (env.set i (some (.lst true (ds.set k (.lst true (ys.eraseIdx j)))))) else .bad
      | none => .bad)
    | _ => .bad)
  | _ => .bad
theorem E_popIn {i k j : Nat} {kk jj : Nat} {px p1 p2 pc : Pos} (hN : Γ.N[i]? = some x) (hv : Vis sc x) (hline : (apos.endLine == pos.line) = true := by rfl) (hd : (x == ("__debug__" : Str)) = false := by decide) (hcd : (x == ("__classdict__" : Str)) = false := by decide) (hs : PlainIx (.Constant (.int (k : Int)) kk p2) := by intro _ _; rfl) :
    SE Γ sc false (.Call (.Attribute (.Subscript (.Name x px) (.Constant (.int (k : Int)) kk p2) p1) "pop" apos) [.Constant (.int (j : Int)) jj pc] [] pos) (mPopIn i k j) := fun X W G T =>
  PE.imp (pe_bm PySem.F.plainAttrs_list PySem.F.slot_list_pop PySem.F.type_list_pop mt_popAt (pe_ix ix_list (pe_var (pos := px) (i := i) (by rw [G.N]; exact hN) (by rw [G.sc]; exact hv) hd hcd) pe_int hs) (pa_cons pe_int pa_nil (by rfl)) (by rfl) (by rfl) hline (by rfl) (by rfl)) fun σ H Q ⟨b, env, F, jx, h⟩ => by
    unfold mPopIn at h
    split at h
    · rename_i ds e0
      split at h
      · rename_i ys hk
        split at h
        · rename_i d hj
          by_cases hz : k < 2 ^ 62 ∧ j < 2 ^ 62
          · rw [if_pos hz] at h
            obtain ⟨v, h1, j1⟩ := jx.get e0
            obtain ⟨a, _, ev, _, _, _⟩ := j1.openLst
            rw [ev] at j1 h1
            obtain ⟨vs, c, ws, y, h2, l2, h3, h4, l4, h5, j5⟩ := j1.popIn hk hj
            obtain ⟨lk, _⟩ := List.getElem?_eq_some_iff.mp hk
            obtain ⟨lj, _⟩ := List.getElem?_eq_some_iff.mp hj
            have ek : atI vs (k : Int) = some (.ref c) := atI_of (ys := ds) (n := k) l2 (by
              unfold ixN
              rw [if_pos (by omega), if_pos (by omega)]
              rfl) h3
            refine ⟨.ref a, h1, a, vs, (k : Int), .ref c, rfl, rfl, .of h2, ek, .inl ⟨rfl, ws, .of h4⟩, c, ws, (j : Int), j, y, rfl, rfl, h4, by omega, by omega, ?_, h5, ?_⟩
            · unfold seqIndex?
              simp only [show ¬ ((j : Int) < 0) by omega, if_false]
              rw [if_pos (by simp; omega)]
              rfl
            · have j6 := SJ.put (F := (y, d) :: F) (set_none_get e0) h1 (j5.perm (.swap ..))
              rw [set_none_set] at j6
              exact h y _ j6 fun z => by cases z
          · rw [if_neg hz] at h
            exact h.elim
        · exact h.elim
      · exact h.elim
    · exact h.elim
end
end TL
end

-- text TL19
section
set_option Elab.async false
set_option linter.all false
set_option maxRecDepth 100000
set_option maxHeartbeats 4000000
namespace TL
open PySem PySem.Spec PyProof.Rows L2

/-! ### x[i] = v -/
def putD (kvs : List (Key × D)) (k : Key) (d : D) : List (Key × D) :=
  if (kvs.any fun kv => decide (kv.1 = k)) = true then kvs.map (fun kv => if kv.1 = k then (kv.1, d) else kv) else kvs ++ [(k, d)]
theorem any_keys {α β : Type} : ∀ {es : List (Key × α)} {kvs : List (Key × β)} (k : Key), es.map (·.1) = kvs.map (·.1) → (es.any fun kv => decide (kv.1 = k)) = (kvs.any fun kv => decide (kv.1 = k))
  | [], [], _, _ => rfl
  | [], _ :: _, _, h => nomatch h
  | _ :: _, [], _, h => nomatch h
  | (k1, v) :: es, (k2, w) :: kvs, k, h => by
    obtain ⟨h1, h2⟩ := List.cons.inj h
    have h1' : k1 = k2 := h1
    subst h1'
    rw [List.any_cons, List.any_cons, any_keys k h2]
theorem keys_put {es : List (Key × V)} {kvs : List (Key × D)} (k : Key) (v : V) (d : D) (h : es.map (·.1) = kvs.map (·.1)) : (putK es k v).map (·.1) = (putD kvs k d).map (·.1) := by
  unfold putK putD
  rw [any_keys k h]
  by_cases q : (kvs.any fun kv => decide (kv.1 = k)) = true
  · rw [if_pos q, if_pos q, List.map_map, List.map_map]
    have e : ∀ {α : Type} (l : List (Key × α)) (u : α), l.map ((fun x => x.1) ∘ fun kv => if kv.1 = k then (kv.1, u) else kv) = l.map (·.1) := fun l u => by
      refine List.map_congr_left fun x _ => ?_
      show (if x.1 = k then (x.1, u) else x).1 = x.1
      by_cases z : x.1 = k
      · rw [if_pos z]
      · rw [if_neg z]
    rw [e, e, h]
  · rw [if_neg q, if_neg q, List.map_append, List.map_append, h]
    rfl
section
variable {g : Glb} {b : Bs} {H H' : Hp} {σ : Sg} {env : En} {F : Prs}
/-- pairs replaced by one that owns nothing -/
theorem RepL.repl {Z : Addr → Prop} {v : V} {d : D} (h : Rep g H Z v d []) (k : Key) : ∀ {es : List (Key × V)} {kvs : List (Key × D)} {A : List Addr}, es.map (·.1) = kvs.map (·.1) → RepL g H Z (es.map (·.2)) (kvs.map (·.2)) A →
    ∃ B, List.Sublist B A ∧ RepL g H Z ((es.map fun kv => if kv.1 = k then (kv.1, v) else kv).map (·.2)) ((kvs.map fun kv => if kv.1 = k then (kv.1, d) else kv).map (·.2)) B
  | [], [], A, _, r => ⟨A, .refl _, r⟩
  | [], _ :: _, _, e, _ => nomatch e
  | _ :: _, [], _, e, _ => nomatch e
  | (k1, u) :: es, (k2, w) :: kvs, A, e, r => by
    obtain ⟨h1, h2⟩ := List.cons.inj e
    have h1' : k1 = k2 := h1
    subst h1'
    obtain ⟨B, C, rfl, r1, r2⟩ := RepL.inv r
    obtain ⟨B', s, r3⟩ := RepL.repl h k h2 r2
    by_cases q : k1 = k
    · refine ⟨[] ++ B', s.trans (List.sublist_append_right ..), ?_⟩
      simp only [List.map_cons, if_pos q]
      exact .cons h r3
    · refine ⟨B ++ B', List.Sublist.append_left s B, ?_⟩
      simp only [List.map_cons, if_neg q]
      exact .cons r1 r3
theorem SJ.putK {a : Addr} {kvs : List (Key × D)} {k : Key} {y : V} {d : D} (hf : isFrz d = true) (j : SJ g b H σ env ((y, d) :: (.ref a, .dct true kvs) :: F)) : ∃ es, H a = some (.dK es) ∧ es.map (·.1) = kvs.map (·.1) ∧ SJ g b (upd H a (.dK (L2.putK es k y))) σ env ((.ref a, .dct true (putD kvs k d)) :: F) := by
  obtain ⟨a', es, e, h, l, j1⟩ := SJ.openDct (F := (y, d) :: F) (j.perm (.swap ..))
  obtain rfl := V.ref.inj e
  refine ⟨es, h, l, SJ.closeDct (keys_put k y d l) ?_⟩
  have ll : (es.map (·.2)).length = (kvs.map (·.2)).length := by
    rw [List.length_map, List.length_map]
    simpa using congrArg List.length l
  unfold L2.putK putD
  rw [any_keys k l]
  by_cases q : (kvs.any fun kv => decide (kv.1 = k)) = true
  · rw [if_pos q, if_pos q]
    obtain ⟨ps, s, A, r, n, w⟩ := j1
    obtain ⟨A', p, r'⟩ := RepP.perm (qs := (y, d) :: ((es.map (·.2)).zip (kvs.map (·.2)) ++ ((.ref a, .raw) :: (F ++ ps)))) (by
      have p1 : (ps ++ ((.ref a, .raw) :: ((es.map (·.2)).zip (kvs.map (·.2)) ++ (y, d) :: F)) : Prs).Perm ((.ref a, .raw) :: ((es.map (·.2)).zip (kvs.map (·.2)) ++ (y, d) :: F) ++ ps) := List.perm_append_comm
      refine p1.trans ?_
      have p2 : ((.ref a, .raw) :: ((es.map (·.2)).zip (kvs.map (·.2)) ++ (y, d) :: F) ++ ps : Prs) = (.ref a, .raw) :: ((es.map (·.2)).zip (kvs.map (·.2)) ++ ((y, d) :: (F ++ ps))) := by simp
      rw [p2]
      have p3 : ((.ref a, .raw) :: ((es.map (·.2)).zip (kvs.map (·.2)) ++ ((y, d) :: (F ++ ps))) : Prs).Perm ((.ref a, .raw) :: (y, d) :: ((es.map (·.2)).zip (kvs.map (·.2)) ++ (F ++ ps))) := List.Perm.cons _ List.perm_middle
      exact p3.trans ((List.Perm.swap ..).trans (List.Perm.cons _ List.perm_middle.symm))) r
    obtain ⟨B, C, rfl, h1, h2⟩ := r'.inv
    obtain rfl := Rep.nil_of (frz_of hf) h1
    obtain ⟨B1, C1, rfl, h3, h4⟩ := h2.split
    have h3' : RepL g H (· ∈ A) (es.map (·.2)) (kvs.map (·.2)) B1 := RepP.items ll h3
    obtain ⟨B2, sub, h5⟩ := RepL.repl h1 k l h3'
    have nA := p.nodup_iff.mp n
    have mA : ∀ x, x ∈ B2 ++ C1 → x ∈ A := fun x m => p.mem_iff.mpr (show x ∈ B1 ++ C1 by
      rcases List.mem_append.mp m with m | m
      · exact List.mem_append_left _ (sub.subset m)
      · exact List.mem_append_right _ m)
    have s2 : List.Sublist (B2 ++ C1) (B1 ++ C1) := List.Sublist.append_right sub C1
    have fin : JJ g b H (((es.map fun kv => if kv.1 = k then (kv.1, y) else kv).map (·.2)).zip ((kvs.map fun kv => if kv.1 = k then (kv.1, d) else kv).map (·.2)) ++ ((.ref a, .raw) :: (F ++ ps))) :=
      ⟨B2 ++ C1, ((RepL.pairs h5).app h4).mono mA, (show (B1 ++ C1).Nodup from nA).sublist s2, w.sub mA⟩
    refine ⟨ps, s, fin.perm ?_⟩
    refine List.perm_middle.trans ?_
    rw [← List.append_assoc]
    exact List.perm_append_comm (l₁ := (.ref a, .raw) :: (_ ++ F))
  · rw [if_neg q, if_neg q, List.map_append, List.map_append, List.zip_append ll, List.append_assoc]
    exact j1
end
section
variable {Γ : Cs} {sc : Scope} {p pa pb pc : Bool} {B : List Nat} {a c e f : Expr} {es : List Expr} {ma mb mv mk : M D} {pos pos' : Pos} {x : Str}
def stoK (i : Nat) (d k : D) (e : En) : RS := match e[i]? with
  | some (some (.lst true xs)) => (match k with
    | .int z => (match ixN xs.length z with
      | some j => .nx (e.set i (some (.lst true (xs.set j d))))
      | none => .bad)
    | _ => .bad)
  | some (some (.dct true kvs)) => (match keyOf k with
    | some z => if kvs.length < sizeLine ∧ isFrz d = true then .nx (e.set i (some (.dct true (putD kvs z d)))) else .bad
    | none => .bad)
  | _ => .bad
def sSto (i : Nat) (mv mk : M D) : MS := fun env => (mv env).s fun d e => match e[i]? with
  | some (some _) => (mk e).s fun k e => stoK i d k e
  | _ => .bad
abbrev rSto : V → V → V → Hp → (Hp → Prop) → Prop := fun o i v H Q => rSetL o i v H Q ∨ rSetD o i v H Q
theorem set_any {X : Cx} (hu : X.A.units + 1 < cLine) : PSet X rSto := fun pins s σ H o i v ov iv u Q I r1 r2 r3 h => h.elim (fun h => set_list pins s σ H o i v ov iv u Q I r1 r2 r3 h) fun h => set_dict hu pins s σ H o i v ov iv u Q I r1 r2 r3 h
theorem SS_sto (i : Nat) {px : Pos} (hv : SE Γ sc pa e mv) (hN : Γ.N[i]? = some x) (hx : Vis sc x) (hk : SE Γ sc pb c mk) (hd : (x == ("__debug__" : Str)) = false := by decide) (hcd : (x == ("__classdict__" : Str)) = false := by decide)
    (ha : ∀ (X : Cx) v, assign (.Subscript (.Name x px) c pos') X.env v = (do
      let ov ← holding [v] (eval (.Name x px) X.env)
      let iv ← holding [v, ov] (eval c X.env)
      standAt pos'
      holding [v, ov, iv] (setItem ov iv v)
      release [v, ov, iv] []) := by intro _ _; rfl)
    (hs : ∀ X : Cx, swapsWithSole [.Subscript (.Name x px) c pos'] e pos.line X.env = pure false := by intro _; rfl) (hw : ∀ X : Cx, swappedStores [.Subscript (.Name x px) c pos'] e X.env = pure none := by intro _; rfl)
    (h1 : ∀ X : Cx, (assignEach [.Subscript (.Name x px) c pos'] X.env).map (·.2) = [assign (.Subscript (.Name x px) c pos') X.env] := by intro _; rfl) : SS Γ sc B (.Assign [.Subscript (.Name x px) c pos'] e pos) (sSto i mv mk) := fun X W G T hf =>
  PS.imp (ps_asg (hv X W G T) (pg_sub (pe_var (pos := px) (i := i) (by rw [G.N]; exact hN) (by rw [G.sc]; exact hx) hd hcd) (hk X W G T) (set_any G.hu1) (ha X)) (hs X) (hw X) (h1 X)) fun D σ H ⟨φ, hB, env, j, hp, h⟩ => by
    refine ⟨φ.b, env, φ.F, j, PoE.ofS (fun d e => match e[i]? with | some (some _) => (mk e).s fun k e => stoK i d k e | _ => .bad) hp h fun d e1 v H1 h j1 x1 => ?_⟩
    split at h
    · rename_i d0 e0
      obtain ⟨o, h2, _⟩ := j1.lk e0
      refine ⟨o, h2, φ.b, e1, (v, d) :: φ.F, j1, ?_⟩
      cases q : mk e1 with
      | bad => rw [q] at h; exact h.elim
      | exc c fs e => rw [q] at h; exact (XS.xw h hp).more
      | ok k e2 =>
        rw [q] at h
        have h' : PoS Γ.g W φ D (stoK i d k e2) := h
        intro u H2 j2 x2
        have wu := j2.vwF
        unfold stoK at h'
        split at h'
        · rename_i xs e3
          split at h'
          · rename_i z
            split at h'
            · rename_i n hn
              cases wu
              obtain ⟨o', h3, j3⟩ := (SJ.drop j2).get e3
              obtain rfl : o = o' := by
                rw [h2] at h3
                exact Option.some.inj (Option.some.inj h3)
              obtain ⟨a, _, ev, _, _, _⟩ := j3.openLst
              rw [ev] at j3 h2 ⊢
              have hl : n < xs.length := (ixN_seq hn).2.1
              obtain ⟨vs, h4, l4, j4⟩ := SJ.setAt (F := φ.F) (j3.perm (.swap ..)) hl
              refine .inl ⟨a, vs, z, n, rfl, rfl, h4, by rw [l4]; exact hn, ?_⟩
              have j5 := SJ.put (F := φ.F) (set_none_get e3) h2 j4
              rw [set_none_set] at j5
              exact h' σ _ j5 hp
            · exact h'.elim
          · exact h'.elim
        · rename_i kvs e3
          split at h'
          · rename_i z hz
            by_cases hc : kvs.length < sizeLine ∧ isFrz d = true
            · rw [if_pos hc] at h'
              obtain ⟨o', h3, j3⟩ := (SJ.drop j2).get e3
              obtain rfl : o = o' := by
                rw [h2] at h3
                exact Option.some.inj (Option.some.inj h3)
              obtain ⟨a, _, ev, _, _, _⟩ := j3.openDct
              rw [ev] at j3 h2 ⊢
              obtain ⟨es, h4, l4, j4⟩ := SJ.putK (F := φ.F) (k := z) hc.2 (j3.perm (.swap ..))
              refine .inr ⟨a, _, rfl, .inl ⟨es, z, h4, keyOf_v wu hz, ?_, rfl⟩, ?_⟩
              · have := congrArg List.length l4
                simp only [List.length_map] at this
                omega
              · have j5 := SJ.put (F := φ.F) (set_none_get e3) h2 j4
                rw [set_none_set] at j5
                exact h' σ _ j5 hp
            · rw [if_neg hc] at h'
              exact h'.elim
          · exact h'.elim
        · exact h'.elim
    · exact h.elim
/-! ### and, or as values -/
def mAnd (ma mb : M D) : M D := fun env => (ma env).bind fun d e => match truD d with
  | some true => mb e
  | some false => .ok d e
  | none => .bad
def mOr (ma mb : M D) : M D := fun env => (ma env).bind fun d e => match truD d with
  | some true => .ok d e
  | some false => mb e
  | none => .bad
/-- a value of an and, an or: one is left -/
theorem SE_and1 (h : SE Γ sc pa a ma) (he : ∀ X : Cx, eval (.BoolOp .And [a] pos) X.env = eval a X.env := by intro _; rfl) : SE Γ sc pa (.BoolOp .And [a] pos) ma := fun X W G T => ⟨fun pins s σ H Q I hw => by rw [he X]; exact (h X W G T).run pins s σ H Q I hw⟩
theorem SE_or1 (h : SE Γ sc pa a ma) (he : ∀ X : Cx, eval (.BoolOp .Or [a] pos) X.env = eval a X.env := by intro _; rfl) : SE Γ sc pa (.BoolOp .Or [a] pos) ma := fun X W G T => ⟨fun pins s σ H Q I hw => by rw [he X]; exact (h X W G T).run pins s σ H Q I hw⟩
theorem SE_and {rest : List Expr} (h : SE Γ sc pa a ma) (k : SE Γ sc pb (.BoolOp .And (c :: rest) pos) mb) : SE Γ sc (pa && pb) (.BoolOp .And (a :: c :: rest) pos) (mAnd ma mb) := fun X W G T =>
  PE.imp (pe_andT (h X W G T) (k X W G T)) fun σ H Q ⟨b, env, F, j, h⟩ => ⟨b, env, F, j, PoE.into (PoE Γ.g b (pa && pb) W σ H F Q) (fun _ _ _ h => h) (fun h => h) h fun d e v H' h j x => by
    cases q : truD d with
    | none => rw [q] at h; exact h.elim
    | some t =>
      rw [q] at h
      refine ⟨t, by rw [G.K]; exact truV_of j.vwF q, ?_⟩
      cases t with
      | true => exact ⟨b, e, F, j.drop, PoE.weak x h⟩
      | false => exact h v H' j fun z => x (Bool.and_eq_true_iff.mp z).1⟩
theorem SE_or {rest : List Expr} (h : SE Γ sc pa a ma) (k : SE Γ sc pb (.BoolOp .Or (c :: rest) pos) mb) : SE Γ sc (pa && pb) (.BoolOp .Or (a :: c :: rest) pos) (mOr ma mb) := fun X W G T =>
  PE.imp (pe_orT (h X W G T) (k X W G T)) fun σ H Q ⟨b, env, F, j, h⟩ => ⟨b, env, F, j, PoE.into (PoE Γ.g b (pa && pb) W σ H F Q) (fun _ _ _ h => h) (fun h => h) h fun d e v H' h j x => by
    cases q : truD d with
    | none => rw [q] at h; exact h.elim
    | some t =>
      rw [q] at h
      refine ⟨t, by rw [G.K]; exact truV_of j.vwF q, ?_⟩
      cases t with
      | false => exact ⟨b, e, F, j.drop, PoE.weak x h⟩
      | true => exact h v H' j fun z => x (Bool.and_eq_true_iff.mp z).1⟩
def mNot (ma : M D) : M D := fun env => (ma env).bind fun d e => match truD d with
  | some t => .ok (.bl (!t)) e
  | none => .bad
theorem SE_not (h : SV Γ sc p a ma) : SE Γ sc p (.UnaryOp .Not a pos) (mNot ma) := fun X W G T =>
  PE.imp (pe_notT (h X W G T)) fun σ H Q ⟨b, env, F, j, h⟩ => ⟨b, env, F, j, PoV.into (PoE Γ.g b p W σ H F Q) (fun _ _ _ h => h) (fun h => h) h fun d e v H' h j w x => by
    cases q : truD d with
    | none => rw [q] at h; exact h.elim
    | some t =>
      rw [q] at h
      exact ⟨t, by rw [G.K]; exact truV_of w q, h (.bl (!t)) H' (j.add fun _ => .bl _) x⟩⟩
end
end TL
end

-- text TL20
section
set_option Elab.async false
set_option linter.all false
set_option maxRecDepth 100000
set_option maxHeartbeats 4000000
namespace TL
open PySem PySem.Spec PyProof.Rows L2

/-! ### sorted texts -/
def leS (a b : Str) : Bool := !ltCps b.cps.toList a.cps.toList
theorem leS_iff {a b : Str} : leS a b = true ↔ a.cps.toList ≤ b.cps.toList := by
  unfold leS
  rw [ltCps_eq]
  simp
theorem leS_trans {a b c : Str} (h : leS a b = true) (k : leS b c = true) : leS a c = true := leS_iff.mpr (List.le_trans (leS_iff.mp h) (leS_iff.mp k))
theorem leS_total (a b : Str) : (leS a b || leS b a) = true := by
  rcases List.le_total a.cps.toList b.cps.toList with h | h
  · rw [leS_iff.mpr h]; rfl
  · rw [leS_iff.mpr h, Bool.or_true]
theorem leS_anti {a b : Str} (h : leS a b = true) (k : leS b a = true) : a = b := by
  have e := List.le_antisymm (leS_iff.mp h) (leS_iff.mp k)
  obtain ⟨⟨x⟩⟩ := a
  obtain ⟨⟨y⟩⟩ := b
  exact congrArg (fun l : List Nat => Str.mk l.toArray) e
def sortS (xs : List Str) : List Str := xs.mergeSort leS
theorem sorted_pw : ∀ {xs : List Str}, sortedS xs = true → xs.Pairwise (fun a b => leS a b = true)
  | [], _ => .nil
  | x :: xs, h => by
    induction xs generalizing x with
    | nil => exact List.pairwise_singleton ..
    | cons y r ih =>
      have h' : (leS x y && risingS y r) = true := h
      obtain ⟨h1, h2⟩ := Bool.and_eq_true_iff.mp h'
      have p := ih y h2
      refine List.pairwise_cons.mpr ⟨fun z m => ?_, p⟩
      rcases List.mem_cons.mp m with rfl | m
      · exact h1
      · exact leS_trans h1 ((List.pairwise_cons.mp p).1 z m)
theorem sortS_pw (xs : List Str) : (sortS xs).Pairwise (fun a b => leS a b = true) := List.pairwise_mergeSort (le := leS) (fun _ _ _ h k => leS_trans h k) leS_total xs
theorem sortS_perm (xs : List Str) : (sortS xs).Perm xs := List.mergeSort_perm xs leS
theorem sort_eq {xs ys : List Str} (p : ys.Perm xs) (h : sortedS ys = true) : ys = sortS xs :=
  List.Perm.eq_of_pairwise (le := fun a b => leS a b = true) (fun a b _ _ h k => leS_anti h k) (sorted_pw h) (sortS_pw xs) (p.trans (sortS_perm xs).symm)
theorem sortS_congr {xs ys : List Str} (p : xs.Perm ys) : sortS xs = sortS ys :=
  List.Perm.eq_of_pairwise (le := fun a b => leS a b = true) (fun a b _ _ h k => leS_anti h k) (sortS_pw xs) (sortS_pw ys) ((sortS_perm xs).trans (p.trans (sortS_perm ys).symm))

/-! ### what is built in, by trees -/
def strsOf : List D → Option (List Str)
  | [] => some []
  | .str s :: r => (strsOf r).map (s :: ·)
  | _ => none
def blsOf : List D → Option (List Bool)
  | [] => some []
  | .bl s :: r => (blsOf r).map (s :: ·)
  | _ => none
def intsOf : List D → Option (List Int)
  | [] => some []
  | .int s :: r => (intsOf r).map (s :: ·)
  | _ => none
theorem strs_vw {g : Glb} {H : Hp} : ∀ {vs : List V} {ds : List D} {ss : List Str}, VwL g H vs ds → strsOf ds = some ss → vs = ss.map V.str
  | _, _, _, .nil, e => by cases Option.some.inj e; rfl
  | _, d :: ds, ss, .cons w r, e => by
    cases w <;> try (cases e; done)
    rename_i s
    obtain ⟨r', h1, h2⟩ := Option.map_eq_some_iff.mp (show (strsOf ds).map (s :: ·) = some ss from e)
    rw [← h2, strs_vw r h1]
    rfl
theorem bls_vw {g : Glb} {H : Hp} : ∀ {vs : List V} {ds : List D} {ss : List Bool}, VwL g H vs ds → blsOf ds = some ss → vs = ss.map V.bl
  | _, _, _, .nil, e => by cases Option.some.inj e; rfl
  | _, d :: ds, ss, .cons w r, e => by
    cases w <;> try (cases e; done)
    rename_i s
    obtain ⟨r', h1, h2⟩ := Option.map_eq_some_iff.mp (show (blsOf ds).map (s :: ·) = some ss from e)
    rw [← h2, bls_vw r h1]
    rfl
theorem ints_vw {g : Glb} {H : Hp} : ∀ {vs : List V} {ds : List D} {ss : List Int}, VwL g H vs ds → intsOf ds = some ss → vs = ss.map V.int
  | _, _, _, .nil, e => by cases Option.some.inj e; rfl
  | _, d :: ds, ss, .cons w r, e => by
    cases w <;> try (cases e; done)
    rename_i s
    obtain ⟨r', h1, h2⟩ := Option.map_eq_some_iff.mp (show (intsOf ds).map (s :: ·) = some ss from e)
    rw [← h2, ints_vw r h1]
    rfl
theorem arg1 {α : Type} {vs : List V} {ds : List D} {f : List D → Option α} {z : α} (l : vs.length = ds.length) (h1 : ∀ a b r, f (a :: b :: r) = none) (h0 : f [] = none) (e : f ds = some z) : ∃ v d, vs = [v] ∧ ds = [d] := by
  match ds, vs, l with
  | [], _, _ => rw [h0] at e; cases e
  | [d], [v], _ => exact ⟨v, d, rfl, rfl⟩
  | a :: b :: r, _, _ => rw [h1] at e; cases e
def keyD : Key → D
  | .inl i => .int i
  | .inr s => .str s
def fList : List D → Option D
  | [.lst _ xs] => some (.lst true xs)
  | [.tup xs] => some (.lst true xs)
  | [.dct _ kvs] => some (.lst true (kvs.map fun kv => keyD kv.1))
  | _ => none
theorem repL_keys {g : Glb} {H : Hp} {Z : Addr → Prop} : ∀ ks : List Key, RepL g H Z (ks.map kV) (ks.map keyD) []
  | [] => .nil
  | .inl i :: ks => .cons (A := []) (.int i) (repL_keys ks)
  | .inr s :: ks => .cons (A := []) (.str s) (repL_keys ks)
section
variable {g : Glb} {b : Bs} {H : Hp} {σ : Sg} {env : En} {F : Prs}
/-- pairs that own nothing, whoever else owns what -/
theorem SJ.addL {ps : Prs} (h : ∀ Z, RepP g H Z ps []) (j : SJ g b H σ env F) : SJ g b H σ env (ps ++ F) := by
  obtain ⟨qs, s, A, r, n, w⟩ := j
  obtain ⟨B, C, rfl, h1, h2⟩ := r.split
  exact ⟨qs, s, B ++ C, h1.app (RepP.app (A := []) (h _) h2), n, w⟩
end
theorem b_list {g : Glb} : BOp g fList (fun xs H Q => (∃ p ys, xs = [.ref p] ∧ (SqL g.K H p ys ∨ SqT g.K H p ys) ∧ ∀ l, H l = none → Q (.ref l) (upd H l (.lst ys))) ∨ (∃ (a : Addr) (kvs : List (Key × V)), xs = [.ref a] ∧ Rd H a (.dK kvs) ∧ ∀ p, H p = none → Q (.ref p) (upd H p (.lst (kvs.map fun kv => kV kv.1))))) := fun b H σ env F vs ds dz Q l j e q => by
  obtain ⟨v, d, rfl, rfl⟩ := arg1 l (fun a b r => by cases a <;> rfl) rfl e
  cases d <;> try (cases e; done)
  · rename_i xs
    cases Option.some.inj e
    obtain ⟨a, vs, rfl, h1, l1, j1⟩ := SJ.readT (F := F) j
    exact .inl ⟨a, vs, rfl, .inr h1, fun p hp => q _ _ (SJ.newLst hp l1 j1) (Ext.new hp)⟩
  · rename_i o xs
    cases Option.some.inj e
    obtain ⟨a, vs, rfl, h1, l1, j1⟩ := SJ.readL (F := F) j
    exact .inl ⟨a, vs, rfl, .inl h1, fun p hp => q _ _ (SJ.newLst hp l1 j1) (Ext.new hp)⟩
  · rename_i o kvs
    cases Option.some.inj e
    obtain ⟨a, es, rfl, h1, l1, j1⟩ := SJ.readD (F := F) j
    refine .inr ⟨a, es, rfl, h1, fun p hp => ?_⟩
    have ee : (es.map fun kv => kV kv.1) = (kvs.map (·.1)).map kV := by rw [← l1, List.map_map]; rfl
    have ed : (kvs.map fun kv => keyD kv.1) = (kvs.map (·.1)).map keyD := by rw [List.map_map]; rfl
    rw [ee]
    rw [ed] at q
    exact q _ _ (SJ.newLst hp (by rw [List.length_map (f := kV), List.length_map (f := keyD)]) (SJ.addL (fun Z => RepL.pairs (repL_keys _)) (SJ.dropL j1))) (Ext.new hp)
def fTuple : List D → Option D
  | [.lst _ xs] => some (.tup xs)
  | [.tup xs] => some (.tup xs)
  | _ => none
theorem b_tuple {g : Glb} : BOp g fTuple (fun xs H Q => ∃ p ys, xs = [.ref p] ∧ ((SqL g.K H p ys ∧ ∀ l, H l = none → Q (.ref l) (upd H l (.tup ys))) ∨ (SqT g.K H p ys ∧ Q (.ref p) H))) := fun b H σ env F vs ds dz Q l j e q => by
  obtain ⟨v, d, rfl, rfl⟩ := arg1 l (fun a b r => by cases a <;> rfl) rfl e
  cases d <;> try (cases e; done)
  · rename_i xs
    cases Option.some.inj e
    obtain ⟨a, vs, rfl, h1, l1, j1⟩ := SJ.readT (F := F) j
    exact ⟨a, vs, rfl, .inr ⟨h1, q _ _ j (Ext.refl H)⟩⟩
  · rename_i o xs
    cases Option.some.inj e
    obtain ⟨a, vs, rfl, h1, l1, j1⟩ := SJ.readL (F := F) j
    exact ⟨a, vs, rfl, .inl ⟨h1, fun p hp => q _ _ (SJ.newTup hp l1 j1) (Ext.new hp)⟩⟩
def fAll : List D → Option D
  | [.lst _ ds] => (blsOf ds).map fun bs => .bl (bs.all id)
  | _ => none
def fAny : List D → Option D
  | [.lst _ ds] => (blsOf ds).map fun bs => .bl (bs.any id)
  | _ => none
theorem b_all {g : Glb} : BOp g fAll (rAll g.K) := fun b H σ env F vs ds dz Q l j e q => by
  obtain ⟨v, d, rfl, rfl⟩ := arg1 l (fun a b r => by cases a <;> rfl) rfl e
  cases d <;> try (cases e; done)
  rename_i o xs
  obtain ⟨bs, h1, h2⟩ := Option.map_eq_some_iff.mp (show (blsOf xs).map (fun bs => D.bl (bs.all id)) = some dz from e)
  have w := SJ.vwF (F := F) j
  cases w with
  | @lst _ a vs _ h r =>
    rw [bls_vw r h1] at h
    exact ⟨a, bs, rfl, h, q _ _ (SJ.add (fun _ => by rw [← h2]; exact .bl _) (SJ.drop (F := F) j)) (Ext.refl H)⟩
theorem b_any {g : Glb} : BOp g fAny (rAny g.K) := fun b H σ env F vs ds dz Q l j e q => by
  obtain ⟨v, d, rfl, rfl⟩ := arg1 l (fun a b r => by cases a <;> rfl) rfl e
  cases d <;> try (cases e; done)
  rename_i o xs
  obtain ⟨bs, h1, h2⟩ := Option.map_eq_some_iff.mp (show (blsOf xs).map (fun bs => D.bl (bs.any id)) = some dz from e)
  have w := SJ.vwF (F := F) j
  cases w with
  | @lst _ a vs _ h r =>
    rw [bls_vw r h1] at h
    exact ⟨a, bs, rfl, h, q _ _ (SJ.add (fun _ => by rw [← h2]; exact .bl _) (SJ.drop (F := F) j)) (Ext.refl H)⟩
def keyS : Key → Option Str
  | .inr s => some s
  | _ => none
def fSorted : List D → Option D
  | [.lst _ ds] => (strsOf ds).bind fun ss => if ss.length < 64 then some (.lst true ((sortS ss).map .str)) else none
  | [.dct _ kvs] => ((kvs.map (·.1)).mapM keyS).bind fun ss => if ss.length < 64 then some (.lst true ((sortS ss).map .str)) else none
  | _ => none
theorem keys_strs : ∀ {ks : List Key} {ss : List Str}, ks.mapM keyS = some ss → ks = ss.map Sum.inr
  | [], ss, h => by
    rw [List.mapM_nil] at h
    cases Option.some.inj h
    rfl
  | k :: ks, ss, h => by
    rw [List.mapM_cons] at h
    obtain ⟨s, h1, h2⟩ := Option.bind_eq_some_iff.mp h
    obtain ⟨r, h3, h4⟩ := Option.bind_eq_some_iff.mp h2
    cases Option.some.inj h4
    cases k with
    | inl i => cases h1
    | inr t =>
      cases Option.some.inj h1
      rw [keys_strs h3]
      rfl
theorem repL_strs {g : Glb} {H : Hp} {Z : Addr → Prop} : ∀ ss : List Str, RepL g H Z (ss.map V.str) (ss.map D.str) []
  | [] => .nil
  | s :: ss => .cons (A := []) (.str s) (repL_strs ss)
theorem b_sorted {g : Glb} : BOp g fSorted (fun xs H Q => rSortedS g.K xs H Q ∨ (∃ (a : Addr) (kvs : List (Key × V)) (ks : List Str), xs = [.ref a] ∧ Rd H a (.dK kvs) ∧ kvs.map (·.1) = ks.map Sum.inr ∧ ks.length < 64 ∧
    ∀ ys p, ys.Perm ks → sortedS ys = true → H p = none → Q (.ref p) (upd H p (.lst (ys.map V.str))))) := fun b H σ env F vs ds dz Q l j e q => by
  obtain ⟨v, d, rfl, rfl⟩ := arg1 l (fun a b r => by cases a <;> rfl) rfl e
  have fin : ∀ {ss ys : List Str} {p : Addr}, dz = .lst true ((sortS ss).map .str) → ys.Perm ss → sortedS ys = true → H p = none → Q (.ref p) (upd H p (.lst (ys.map V.str))) := fun {ss ys p} ez pp hs hp => by
    rw [sort_eq pp hs]
    refine q _ _ ?_ (Ext.new hp)
    rw [ez]
    exact SJ.newLst hp (by rw [List.length_map, List.length_map]) (SJ.addL (fun Z => RepL.pairs (repL_strs _)) (SJ.drop (F := F) j))
  cases d <;> try (cases e; done)
  · rename_i o xs
    obtain ⟨ss, h1, h2⟩ := Option.bind_eq_some_iff.mp (show (strsOf xs).bind (fun ss => if ss.length < 64 then some (D.lst true ((sortS ss).map .str)) else none) = some dz from e)
    by_cases h64 : ss.length < 64
    · rw [if_pos h64] at h2
      have w := SJ.vwF (F := F) j
      cases w with
      | @lst _ a vs _ h r =>
        rw [strs_vw r h1] at h
        exact .inl ⟨a, ss, rfl, h, h64, fun ys p pp hs hp => fin (Option.some.inj h2).symm pp hs hp⟩
    · rw [if_neg h64] at h2; cases h2
  · rename_i o kvs
    obtain ⟨ss, h1, h2⟩ := Option.bind_eq_some_iff.mp (show ((kvs.map (·.1)).mapM keyS).bind (fun ss => if ss.length < 64 then some (D.lst true ((sortS ss).map .str)) else none) = some dz from e)
    by_cases h64 : ss.length < 64
    · rw [if_pos h64] at h2
      obtain ⟨a, es, rfl, h3, l3, _⟩ := SJ.readD (F := F) j
      exact .inr ⟨a, es, ss, rfl, h3, l3.trans (keys_strs h1), h64, fun ys p pp hs hp => fin (Option.some.inj h2).symm pp hs hp⟩
    · rw [if_neg h64] at h2; cases h2
section
variable {Γ : Cs} {sc : Scope} {p pa pb pc : Bool} {a c e f : Expr} {es : List Expr} {n : Rdr} {ms : M (List D)} {pos : Pos} {pn : Pos}
theorem E_list (hB : Blt Γ sc "list" (.type "list")) (ha : SA Γ sc p [e] ms) (he : ∀ X : Cx, starEach [e] X.env = (false, eval e X.env) :: starEach [] X.env := by intro _; rfl) : SE Γ sc p (.Call (.Name "list" pn) [e] [] pos) (mB fList ms) :=
  E_t hB (fun X G => ⟨_, call_list_of.or (call_listD G.calm), by rw [G.K]; exact b_list⟩) ha he
theorem E_tuple (hB : Blt Γ sc "tuple" (.type "tuple")) (ha : SA Γ sc p [e] ms) (he : ∀ X : Cx, starEach [e] X.env = (false, eval e X.env) :: starEach [] X.env := by intro _; rfl) : SE Γ sc p (.Call (.Name "tuple" pn) [e] [] pos) (mB fTuple ms) :=
  E_t hB (fun X G => ⟨_, call_tuple_of, by rw [G.K]; exact b_tuple⟩) ha he
theorem E_all (hB : Blt Γ sc "all" (.builtin "all")) (ha : SA Γ sc p [e] ms) (he : ∀ X : Cx, starEach [e] X.env = (false, eval e X.env) :: starEach [] X.env := by intro _; rfl) : SE Γ sc p (.Call (.Name "all" pn) [e] [] pos) (mB fAll ms) :=
  E_b hB (fun X G => ⟨_, cr_all G.calm, by rw [G.K]; exact b_all⟩) ha he
theorem E_any (hB : Blt Γ sc "any" (.builtin "any")) (ha : SA Γ sc p [e] ms) (he : ∀ X : Cx, starEach [e] X.env = (false, eval e X.env) :: starEach [] X.env := by intro _; rfl) : SE Γ sc p (.Call (.Name "any" pn) [e] [] pos) (mB fAny ms) :=
  E_b hB (fun X G => ⟨_, cr_any G.calm, by rw [G.K]; exact b_any⟩) ha he
theorem E_sorted (hB : Blt Γ sc "sorted" (.builtin "sorted")) (ha : SA Γ sc p [e] ms) (he : ∀ X : Cx, starEach [e] X.env = (false, eval e X.env) :: starEach [] X.env := by intro _; rfl) : SE Γ sc p (.Call (.Name "sorted" pn) [e] [] pos) (mB fSorted ms) :=
  E_b hB (fun X G => ⟨_, cr_sortedS.or (call_sortedD G.calm), by rw [G.K]; exact b_sorted⟩) ha he
/-! str, int -/
def strD : D → Option D
  | .int i => if i.natAbs.log2 < 1920 then some (.str (toString i)) else none
  | .str s => some (.str s)
  | _ => none
theorem R_str (hB : Blt Γ sc "str" (.type "str")) (ha : SR Γ sc e n) (he : ∀ X : Cx, starEach [e] X.env = (false, eval e X.env) :: starEach [] X.env := by intro _; rfl) : SR Γ sc (.Call (.Name "str" pn) [e] [] pos) (rUn strD n) :=
  R_t1 hB (fun X G => ⟨_, call_str_int.or SkE.call_str_str, fun H x dx dz Q w e q => by
    cases w <;> try (cases e; done)
    · rename_i i
      have e' : (if i.natAbs.log2 < 1920 then some (D.str (toString i)) else none) = some dz := e
      by_cases h : i.natAbs.log2 < 1920
      · rw [if_pos h] at e'
        cases Option.some.inj e'
        exact .inl ⟨i, rfl, h, q _ fun _ _ => .str _⟩
      · rw [if_neg h] at e'; cases e'
    · rename_i s
      cases Option.some.inj e
      exact .inr ⟨s, rfl, q _ fun _ _ => .str _⟩⟩) ha he
def intD : D → Option D
  | .int i => some (.int i)
  | .bl k => some (.int (if k then 1 else 0))
  | .str s => (intText? s).bind fun n => if s.length ≤ 640 then some (.int n) else none
  | _ => none
theorem R_int (hB : Blt Γ sc "int" (.type "int")) (ha : SR Γ sc e n) (he : ∀ X : Cx, starEach [e] X.env = (false, eval e X.env) :: starEach [] X.env := by intro _; rfl) : SR Γ sc (.Call (.Name "int" pn) [e] [] pos) (rUn intD n) :=
  R_t1 hB (fun X G => ⟨_, call_int1.or call_int_str, fun H x dx dz Q w e q => by
    cases w <;> try (cases e; done)
    · rename_i k
      cases Option.some.inj e
      exact .inl (.inr ⟨k, rfl, q _ fun _ _ => .int _⟩)
    · rename_i i
      cases Option.some.inj e
      exact .inl (.inl ⟨i, rfl, q _ fun _ _ => .int _⟩)
    · rename_i s
      obtain ⟨m, h1, h2⟩ := Option.bind_eq_some_iff.mp (show (intText? s).bind (fun n => if s.length ≤ 640 then some (D.int n) else none) = some dz from e)
      by_cases h : s.length ≤ 640
      · rw [if_pos h] at h2
        cases Option.some.inj h2
        exact .inr ⟨s, m, rfl, h1, h, q _ fun _ _ => .int _⟩
      · rw [if_neg h] at h2; cases h2⟩) ha he
end
end TL
end

-- text TL21
section
set_option Elab.async false
set_option linter.all false
set_option maxRecDepth 100000
set_option maxHeartbeats 4000000
namespace TL
open PySem PySem.Spec PyProof.Rows L2

/-! ### several clauses 'except x as n' -/
/-- what is wanted behind a suite, the clause's name gone -/
def goneD (i : Nat) (D : Ends) : Ends := { nx := fun σ H => D.nx (σ.set i none) H, rt := D.rt, bk := fun σ H => D.bk (σ.set i none) H, ct := fun σ H => D.ct (σ.set i none) H }
abbrev Clauses := List (Value × (Addr → Value → Option Addr → TS))
def wCls (K : PySem.W.Frag) (i : Nat) (Wout : L2.WX) (D : Ends) : Clauses → L2.WX
  | [] => Wout
  | (c, ts) :: r => fun cls d σ H => ∃ b, PySem.W.exmOne K cls c = some b ∧ (b = true → ∀ a, H a = none → ts a cls d (goneD i D) (σ.set i (some (.ref a))) H) ∧ (b = false → wCls K i Wout D r cls d σ H)
inductive ClsOk (X : Cx) (n : Str) : List ExceptHandler → Clauses → Prop
  | nil : ClsOk X n [] []
  | cons {x : Str} {c : Value} {ts : Addr → Value → Option Addr → TS} {b₀ : Stmt} {suite : List Stmt} {np pos' : Pos} {hds : List ExceptHandler} {l : Clauses} (hc : Names X x c)
      (hsu : ∀ (a : Addr) (oe : Obj) (cls : Value) (d : Option Addr) (pn : List (Addr × Obj)), Zc cls d oe → (∃ vs, oe.data = .fields vs) → PSs (X.suite a ((a, oe) :: pn)) (b₀ :: suite) (ts a cls d)) (r : ClsOk X n hds l) :
      ClsOk X n (.ExceptHandler (some (.Name x np)) (some n) (b₀ :: suite) pos' :: hds) ((c, ts) :: l)
section
variable {X : Cx} {n : Str} {i : Nat} {body : List Stmt} {hds : List ExceptHandler} {h₀ : ExceptHandler} {l : Clauses} {pos : Pos} {tb : L2.WX → TS} {Wout : L2.WX}
/-- an exception that has come to the clauses: where it lies -/
structure Caught (X : Cx) (pins : List (Addr × Obj)) (σ : L2.St) (H : Hp) (a : Addr) (B : Heap) (sI : Shared) (cls : Value) (d : Option Addr) (s3 : Shared) : Prop where
  inv : Inv X pins σ H sI
  nb : ∀ b o, sI.heap.get? b = some o → b ∉ frs X.stack → B.get? b = some o
  up : sI.heap.UpToSlots s3.heap
  fl : HandSPX.FlyingZ B (X.env :: X.outer) a (Zc cls d) s3.heap
  na : H a = none
  os : s3.os = sI.os
  ag : AllBare s3.gens
theorem Caught.frs {pins : List (Addr × Obj)} {σ : L2.St} {H : Hp} {a : Addr} {B : Heap} {sI s3 : Shared} {cls : Value} {d : Option Addr} (k : Caught X pins σ H a B sI cls d s3) : a ∉ L2.frs (X.env :: X.outer) := fun hm => by
  obtain ⟨oe, vs, he, _, hd⟩ := k.fl.there
  obtain ⟨_, o', e', hnf⟩ := (k.fl.2.2.1).mem hm
  rw [he] at e'
  cases e'
  exact hnf _ hd
theorem clauses_ok {pins : List (Addr × Obj)} {σ : L2.St} {H : Hp} {a : Addr} {B : Heap} {sI s3 : Shared} {cls : Value} {d : Option Addr} {D : Ends} (hs : X.stack = X.env :: X.outer) (hf : X.env.frame = some X.env.locals) (hN : X.N.Nodup) (hi : X.N[i]? = some n) (hln : X.env.kindOf n = some .local) (tk : Takes X Wout)
    (k : Caught X pins σ H a B sI cls d s3) (hk : ClsOk X n hds l) : wCls X.K i Wout D l cls d σ H → wpAny (model X.prog X.w) X.A (handleBy (.ref a) X.env hds) (SP X pins D) X.xe s3 := by
  have nfr := k.frs
  have nL : a ≠ X.env.locals := fun z => nfr (List.mem_filterMap.mpr ⟨X.env, List.mem_cons_self, by rw [hf, z]⟩)
  have nF : a ∉ X.fs := fun hm => by
    obtain ⟨e, he, q⟩ := List.mem_filterMap.mp hm
    exact nfr (List.mem_filterMap.mpr ⟨e, List.mem_cons_of_mem _ he, q⟩)
  have land : ∀ {h4 : Heap}, HandSPX.FlyingZ B (X.env :: X.outer) a (Zc cls d) h4 → s3.heap.UpToSlots h4 → Inv X pins σ H { s3 with heap := h4 } := fun fl4 up4 => k.inv.landed k.nb fl4.1 (k.up.trans up4) k.os k.ag
  induction hk with
  | nil =>
    intro w
    refine wpAny_handleBy_nil ?_
    obtain ⟨k1, k2, k3, oe, vs, T, oT, ts', he, hz, hd, h1, hr⟩ := id k.fl
    unfold PySem.passOn
    refine wpAny_bind (wpAny_field he hd h1 ?_)
    rw [if_neg (show ¬ ((Value.ref T == Value.none) = true) from by simp)]
    have fin : wpAny (model X.prog X.w) X.A (setFlight (.ref a) X.env.frame) (fun _ s4 => wpAny (model X.prog X.w) X.A (throw (.ref a) : Sem Flow) (SP X pins D) X.xe s4) X.xe s3 := by
      rw [hf]
      exact HandSPX.setFlight_upZ k.fl fun h4 hh4 up4 => wpAny_throw (tk _ _ ⟨a, B, sI, pins, σ, H, cls, d, rfl, k.inv, k.nb, k.up.trans up4, .inr (.inr (by rw [hs]; exact hh4)), k.na, k.os, k.ag, w⟩)
    first
      | exact wpAny_bind (wpAny_pure (wpAny_bind fin))
      | exact wpAny_bind fin
  | @cons x c ts b₀ suite np pos' hds2 l2 hc hsu r ih =>
    intro w
    obtain ⟨b, hb1, hyes, hno⟩ := w
    obtain ⟨oe3, vs3, he3, hz3, hd3⟩ := k.fl.there
    have J3 := land k.fl (Heap.UpToSlots.refl _)
    have S3 := J3.suite he3 hd3 k.na nL nF
    refine wpAny_handleBy_cons (codeAny_handlers_test ?_) (by intro q; cases q)
    have LT : PySem.W.Looks (model X.prog X.w) s3.heap (typeOf (.ref a)) cls := fun A Q E s kk q => wpAny_typeOf_ref (kk _ _ he3) (by rw [hz3.1]; exact q)
    have LM := PySem.W.exm_one (M := model X.prog X.w) (J3.kIn) LT hb1
    have test : ∀ {Q : Value → Shared → Prop} {E : Value → Shared → Prop}, Q c s3 → wpAny (model X.prog X.w) (X.A.mark (some (.ref a))) (eval (.Name x np) X.env) Q E s3 := fun {Q E} q => by
      obtain ⟨hg, hdbg, hm | ⟨hm, hv, hnn⟩⟩ := hc
      · exact ld_glob (X := X.suite a ((a, oe3) :: (X.pn ++ pins))) S3 hg hm q hdbg
      · exact ld_blt (X := X.suite a ((a, oe3) :: (X.pn ++ pins))) S3 hg hm hv q hnn hdbg
    refine test (LM.here ?_)
    cases b with
    | false => exact ih (hno rfl)
    | true =>
      refine codeAny_handlers_suite_as ?_
      refine HandSPX.lands_againZ k.fl fun h4 fl4 up4 => ?_
      obtain ⟨oe4, vs4, he4, hz4, hd4⟩ := fl4.there
      have S4 := (land fl4 up4).suite he4 hd4 k.na nL nF
      refine store_ok (X := X.suite a ((a, oe4) :: (X.pn ++ pins))) (v := .ref a) S4 hN hi (.inl hln) rfl (fun s5 S5 => ?_) (.inr hln)
      refine wpAny_mono ((hsu a oe4 cls d (X.pn ++ pins) hz4 ⟨_, hd4⟩).run [] s5 _ H _ S5 (hyes rfl a k.na)) (fun f s6 hsp => ?_) (fun _ _ z => False.elim z)
      have end_ : ∀ {σ6 : L2.St} {H6 : Hp} {Q : Shared → Prop}, Inv (X.suite a ((a, oe4) :: (X.pn ++ pins))) [] σ6 H6 s6 → (∀ s7, Inv X pins (σ6.set i none) H6 s7 → Q s7) →
          wpAny (model X.prog X.w) X.A (do bindName X.env n .none; unbindBehindTheSuite X.env n pos') (fun _ s7 => Q s7) X.xe s6 := fun {σ6 H6 Q} S6 hq => gone_ok (S6.unsuite k.inv.ok) hN hi hln hq
      cases f with
      | next => obtain ⟨σ6, H6, S6, q6⟩ := hsp; exact end_ S6 fun s7 J7 => ⟨_, _, J7, q6⟩
      | brk => obtain ⟨σ6, H6, S6, q6⟩ := hsp; exact end_ S6 fun s7 J7 => ⟨_, _, J7, q6⟩
      | cont => obtain ⟨σ6, H6, S6, q6⟩ := hsp; exact end_ S6 fun s7 J7 => ⟨_, _, J7, q6⟩
      | ret u => obtain ⟨v6, σ6, H6, S6, r6, q6⟩ := hsp; exact end_ S6 fun s7 J7 => ⟨_, _, _, J7, r6, q6⟩
theorem ps_try_cls (hs : X.stack = X.env :: X.outer) (hf : X.env.frame = some X.env.locals) (hN : X.N.Nodup) (hi : X.N[i]? = some n) (hln : X.env.kindOf n = some .local) (tk : Takes X Wout)
    (hb : ∀ (W : L2.WX) (pn : List (Addr × Obj)) (xe : Value → Shared → Prop), Takes (X.tr pn xe) W → PassesOwn (model X.prog X.w) X.A X.env xe → PSs (X.tr pn xe) body (tb W)) (hh : ClsOk X n (h₀ :: hds) l) :
    PS X (.Try body (h₀ :: hds) [] [] pos) (fun D σ H => tb (wCls X.K i Wout D l) D σ H) := by
  refine ⟨fun pins s σ H D I h => ?_⟩
  have ok := I.ok
  have hfr : X.A.frames = some (X.env :: X.outer) := by rw [ok.frames, hs]
  refine wpAny_Try_except (wpAny_mono ((hb (wCls X.K i Wout D l) (X.pn ++ pins) (fun e s₁ => wpAny (model X.prog X.w) X.A (noteFrame e X.env) (fun _ s₂ => wpAny (model X.prog X.w) X.A (setFlight e none) (fun _ s₃ =>
    wpAny (model X.prog X.w) X.A (handleBy e X.env (h₀ :: hds)) (SP X pins D) X.xe s₃) X.xe s₂) X.xe s₁) (fun u s' xx => ?_) PassesOwn.looking).run [] s σ H D (I.toTry _) h) (fun f s1 hsp => ?_) (fun e s1 he => he))
  · obtain ⟨a, B, sI, pins', σ', H', cls, d, rfl, J', nb, up, sky, na, os, ag, w⟩ := xx
    have sky' : Sky B (X.env :: X.outer) a (Zc cls d) X.env.locals s'.heap := by rw [← hs]; exact sky
    show wpAny (model X.prog X.w) X.A (noteFrame (.ref a) X.env) _ _ _
    exact Sky.land Zc.steady hfr hf sky' fun h3 fl3 up3 => clauses_ok hs hf hN hi hln tk ⟨J'.ofTry ok, nb, up.trans up3, fl3, na, os, ag⟩ hh w
  · cases f with
    | next => obtain ⟨σ', H', J', q⟩ := hsp; exact wpAny_execs_nil ⟨σ', H', J'.ofTry ok, q⟩
    | brk => obtain ⟨σ', H', J', q⟩ := hsp; exact ⟨σ', H', J'.ofTry ok, q⟩
    | cont => obtain ⟨σ', H', J', q⟩ := hsp; exact ⟨σ', H', J'.ofTry ok, q⟩
    | ret u => obtain ⟨v, σ', H', J', r, q⟩ := hsp; exact ⟨v, σ', H', J'.ofTry ok, r, q⟩
end
end TL
end

-- text TL22
section
set_option Elab.async false
set_option linter.all false
set_option maxRecDepth 100000
set_option maxHeartbeats 4000000
namespace TL
open PySem PySem.Spec PyProof.Rows L2

/-! ### by running -/
def visB (sc : Scope) (x : Str) : Bool := match sc.names.lookup x with
  | some .local => true
  | some .cell => true
  | some .free => true
  | _ => false
theorem vis_by {sc : Scope} {x : Str} (h : visB sc x = true) : Vis sc x := by
  unfold visB at h
  split at h
  · exact .inl (by assumption)
  · exact .inr (.inl (by assumption))
  · exact .inr (.inr (by assumption))
  · cases h
def locB (sc : Scope) (x : Str) : Bool := match sc.names.lookup x with
  | some .local => true
  | some .cell => true
  | _ => false
theorem loc_by {sc : Scope} {x : Str} (h : locB sc x = true) : Loc sc x := by
  unfold locB at h
  split at h
  · exact .inl (by assumption)
  · exact .inr (by assumption)
  · cases h
section
variable {Γ : Cs} {sc : Scope} {p pa pb pc : Bool} {B : List Nat} {a c e f : Expr} {es : List Expr} {ma mb : M D} {ms : M (List D)} {na nb nc n : Rdr} {pos pos' : Pos} {x : Str}
/-! ### one operand, had -/
def mV1 (f : D → Option D) (ma : M D) : M D := fun env => (ma env).bind fun d e => match f d with
  | some z => .ok z e
  | none => .bad
theorem rd_v1 {g : Glb} {W : L2.WX} {f : D → Option D} {r : List V → Hp → VK → Prop} (hs : B1 g f r) {σ : Sg} {H : Hp} {Q : VK} (h : rdE g p W (mV1 f ma) σ H Q) : tCB r (tCons (rdV g p W ma) tNil) σ H Q := by
  obtain ⟨b, env, F, j, h⟩ := h
  refine ⟨b, env, F, j, PoV.into (PoE g b p W σ H F Q) (fun _ _ _ h => h) (fun h => h) h fun d e v H' h j w x => ?_⟩
  cases q : f d with
  | none => rw [q] at h; exact h.elim
  | some z =>
    rw [q] at h
    exact hs H' v d z Q w q fun u ru => h u H' (j.add (ru H')) x
theorem V_b1 {id : String} {f : D → Option D} {pn : Pos} (hB : Blt Γ sc x (.builtin id)) (hc : ∀ X, Good Γ sc X → ∃ r, CallR X (.builtin id) r ∧ B1 Γ.g f r) (ha : SV Γ sc p e ma)
    (he : ∀ X : Cx, starEach [e] X.env = (false, eval e X.env) :: starEach [] X.env := by intro _; rfl) (hn : x ≠ "__name__" := by decide) (hdb : (x == ("__debug__" : Str)) = false := by decide) : SE Γ sc p (.Call (.Name x pn) [e] [] pos) (mV1 f ma) := fun X W G T => by
  obtain ⟨r, h1, h2⟩ := hc X G
  exact PE.imp (pe_callB h1 (hB.g G) (hB.m G) hB.bt (pa_cons (ha X W G T) pa_nil (he X)) hn hdb (he X) rfl) fun σ H Q => rd_v1 h2
theorem V_t1 {T : String} {f : D → Option D} {pn : Pos} (hB : Blt Γ sc x (.type T)) (hc : ∀ X, Good Γ sc X → ∃ r, CallR X (.type T) r ∧ B1 Γ.g f r) (ha : SV Γ sc p e ma)
    (he : ∀ X : Cx, starEach [e] X.env = (false, eval e X.env) :: starEach [] X.env := by intro _; rfl) (hn : x ≠ "__name__" := by decide) (hdb : (x == ("__debug__" : Str)) = false := by decide) : SE Γ sc p (.Call (.Name x pn) [e] [] pos) (mV1 f ma) := fun X W G T => by
  obtain ⟨r, h1, h2⟩ := hc X G
  exact PE.imp (pe_callTy h1 (hB.g G) (hB.m G) hB.bt (pa_cons (ha X W G T) pa_nil (he X)) hn hdb (he X) rfl) fun σ H Q => rd_v1 h2
theorem b1_abs {g : Glb} : B1 g absD (fun xs H Q => ∃ i, xs = [.int i] ∧ Q (.int (if i < 0 then -i else i)) H) := fun H x dx dz Q w e q => by
  cases w <;> try (cases e; done)
  cases Option.some.inj e
  exact ⟨_, rfl, q _ fun _ _ => .int _⟩
abbrev rIntA : List V → Hp → VK → Prop := fun xs H Q => ((∃ i, xs = [.int i] ∧ Q (.int i) H) ∨ ∃ k, xs = [.bl k] ∧ Q (.int (if k then 1 else 0)) H) ∨ (∃ a n, xs = [.str a] ∧ PySem.intText? a = some n ∧ a.length ≤ 640 ∧ Q (.int n) H)
theorem b1_int {g : Glb} : B1 g intD rIntA := fun H x dx dz Q w e q => by
  cases w <;> try (cases e; done)
  · rename_i k
    cases Option.some.inj e
    exact .inl (.inr ⟨k, rfl, q _ fun _ _ => .int _⟩)
  · rename_i i
    cases Option.some.inj e
    exact .inl (.inl ⟨i, rfl, q _ fun _ _ => .int _⟩)
  · rename_i s
    obtain ⟨m, h1, h2⟩ := Option.bind_eq_some_iff.mp (show (intText? s).bind (fun n => if s.length ≤ 640 then some (D.int n) else none) = some dz from e)
    by_cases h : s.length ≤ 640
    · rw [if_pos h] at h2
      cases Option.some.inj h2
      exact .inr ⟨s, m, rfl, h1, h, q _ fun _ _ => .int _⟩
    · rw [if_neg h] at h2; cases h2
theorem V_len {pn : Pos} (hB : Blt Γ sc "len" (.builtin "len")) (ha : SV Γ sc p e ma) (he : ∀ X : Cx, starEach [e] X.env = (false, eval e X.env) :: starEach [] X.env := by intro _; rfl) : SE Γ sc p (.Call (.Name "len" pn) [e] [] pos) (mV1 lenD ma) :=
  V_b1 hB (fun X G => ⟨_, call_len, by rw [G.K]; exact b_len⟩) ha he
theorem V_abs {pn : Pos} (hB : Blt Γ sc "abs" (.builtin "abs")) (ha : SV Γ sc p e ma) (he : ∀ X : Cx, starEach [e] X.env = (false, eval e X.env) :: starEach [] X.env := by intro _; rfl) : SE Γ sc p (.Call (.Name "abs" pn) [e] [] pos) (mV1 absD ma) :=
  V_b1 hB (fun X G => ⟨_, call_abs, b1_abs⟩) ha he
theorem V_int {pn : Pos} (hB : Blt Γ sc "int" (.type "int")) (ha : SV Γ sc p e ma) (he : ∀ X : Cx, starEach [e] X.env = (false, eval e X.env) :: starEach [] X.env := by intro _; rfl) : SE Γ sc p (.Call (.Name "int" pn) [e] [] pos) (mV1 intD ma) :=
  V_t1 hB (fun X G => ⟨_, call_int1.or call_int_str, b1_int⟩) ha he
/-! ### dicts of the module, the key had -/
theorem V_ixK {kvs : List (Str × D)} {px : Pos} (h : WDct Γ x kvs) (hg : sc.names.lookup x = some .globalImplicit) (ha : SV Γ sc p e ma) (hs : PlainIx e) (hd : (x == ("__debug__" : Str)) = false := by decide) : SE Γ sc p (.Subscript (.Name x px) e pos) (mV1 (ixK kvs) ma) := fun X W G T => by
  obtain ⟨d, es, k, h1, h2, h3⟩ := h.ex
  refine PE.imp (pe_ix ix_kdict (pe_name_ref G h1 hg hd) (ha X W G T) hs) fun σ H Q ⟨b, env, F, j, h⟩ => ?_
  refine ⟨b, env, F, j, PoV.into (PoE Γ.g b p W σ H F Q) (fun _ _ _ h => h) (fun h => h) h fun dx e1 v H1 h j1 w x1 => ?_⟩
  cases e2 : ixK kvs dx with
  | none => rw [e2] at h; exact h.elim
  | some z =>
    rw [e2] at h
    cases w <;> try (cases e2; done)
    rename_i s
    have e2' : kvs.lookup s = some z := e2
    have q3 := h3 s
    rw [e2'] at q3
    obtain ⟨ht, u, q1, q2⟩ := q3
    exact ⟨d, s, vOf z, rfl, rfl, by rw [G.K, G.w]; exact ⟨_, k, u, h2.at_, h2.lit, q1, q2⟩, h _ H1 (j1.add fun Z => rep_at ht) x1⟩
theorem V_inK {kvs : List (Str × D)} {px : Pos} (h : WDct Γ x kvs) (hg : sc.names.lookup x = some .globalImplicit) (ha : SV Γ sc p e ma) (hd : (x == ("__debug__" : Str)) = false := by decide) (hm : behindInMarks .In (.Name x px) = false := by rfl) : SE Γ sc p (.Compare e [.In] [.Name x px] pos) (mV1 (inK kvs) ma) := fun X W G T => by
  obtain ⟨d, es, k, h1, h2, h3⟩ := h.ex
  refine PE.imp (pe_cmpR (op_in_kd (by rw [G.K, G.w]; exact h2)) (ha X W G T) (pe_name_ref G h1 hg hd) hm) fun σ H Q ⟨b, env, F, j, h⟩ => ?_
  refine ⟨b, env, F, j, PoV.into (PoE Γ.g b p W σ H F Q) (fun _ _ _ h => h) (fun h => h) h fun dx e1 v H1 h j1 w x1 => ?_⟩
  cases e2 : inK kvs dx with
  | none => rw [e2] at h; exact h.elim
  | some z =>
    rw [e2] at h
    cases w <;> try (cases e2; done)
    rename_i s
    obtain ⟨r, r1, r2⟩ := WDct.some h3 (z := s)
    refine ⟨s, r, rfl, rfl, by rw [G.K]; exact r1, h _ H1 ?_ x1⟩
    rw [← Option.some.inj e2, r2]
    exact j1.add fun _ => .bl _
theorem V_ninK {kvs : List (Str × D)} {px : Pos} (h : WDct Γ x kvs) (hg : sc.names.lookup x = some .globalImplicit) (ha : SV Γ sc p e ma) (hd : (x == ("__debug__" : Str)) = false := by decide) (hm : behindInMarks .NotIn (.Name x px) = false := by rfl) : SE Γ sc p (.Compare e [.NotIn] [.Name x px] pos) (mV1 (ninK kvs) ma) := fun X W G T => by
  obtain ⟨d, es, k, h1, h2, h3⟩ := h.ex
  refine PE.imp (pe_cmpR (op_notIn_kd (by rw [G.K, G.w]; exact h2)) (ha X W G T) (pe_name_ref G h1 hg hd) hm) fun σ H Q ⟨b, env, F, j, h⟩ => ?_
  refine ⟨b, env, F, j, PoV.into (PoE Γ.g b p W σ H F Q) (fun _ _ _ h => h) (fun h => h) h fun dx e1 v H1 h j1 w x1 => ?_⟩
  cases e2 : ninK kvs dx with
  | none => rw [e2] at h; exact h.elim
  | some z =>
    rw [e2] at h
    cases w <;> try (cases e2; done)
    rename_i s
    obtain ⟨r, r1, r2⟩ := WDct.some h3 (z := s)
    refine ⟨s, r, rfl, rfl, by rw [G.K]; exact r1, h _ H1 ?_ x1⟩
    rw [← Option.some.inj e2, r2]
    exact j1.add fun _ => .bl _
theorem mV1_bl {f : D → Option D} (hf : ∀ x z, f x = some z → ∃ t, z = .bl t) : ∀ env d e, mV1 f ma env = .ok d e → ∃ t, d = .bl t := fun env d e h => by
  unfold mV1 at h
  cases q : ma env with
  | ok x e1 =>
    rw [q] at h
    unfold Rs.bind at h
    dsimp only at h
    cases q2 : f x with
    | none => rw [q2] at h; cases h
    | some z =>
      rw [q2] at h
      injection h with h1 _
      subst h1
      exact hf x z q2
  | exc c fs e => rw [q] at h; cases h
  | bad => rw [q] at h; cases h
theorem inK_bl {kvs : List (Str × D)} : ∀ x z, inK kvs x = some z → ∃ t, z = .bl t := fun x z h => by
  cases x <;> first | (cases h; done) | exact ⟨_, (Option.some.inj h).symm⟩
theorem ninK_bl {kvs : List (Str × D)} : ∀ x z, ninK kvs x = some z → ∃ t, z = .bl t := fun x z h => by
  cases x <;> first | (cases h; done) | exact ⟨_, (Option.some.inj h).symm⟩
theorem T_inK {kvs : List (Str × D)} {px : Pos} (h : WDct Γ x kvs) (hg : sc.names.lookup x = some .globalImplicit) (ha : SV Γ sc p e ma) (hd : (x == ("__debug__" : Str)) = false := by decide) (hm : behindInMarks .In (.Name x px) = false := by rfl) : ST Γ sc p (.Compare e [.In] [.Name x px] pos) (mTru (mV1 (inK kvs) ma)) := fun X W G T => by
  obtain ⟨d, es, k, h1, h2, h3⟩ := h.ex
  refine PT.imp (pt_cmpR (op_in_kd (by rw [G.K, G.w]; exact h2)) (ha X W G T) (pe_name_ref G h1 hg hd) hm) fun σ H Q => rd_test (mV1_bl inK_bl) fun σ H Q ⟨b, env, F, j, h⟩ => ?_
  refine ⟨b, env, F, j, PoV.into (PoE Γ.g b p W σ H F Q) (fun _ _ _ h => h) (fun h => h) h fun dx e1 v H1 h j1 w x1 => ?_⟩
  cases e2 : inK kvs dx with
  | none => rw [e2] at h; exact h.elim
  | some z =>
    rw [e2] at h
    cases w <;> try (cases e2; done)
    rename_i s
    obtain ⟨r, r1, r2⟩ := WDct.some h3 (z := s)
    refine ⟨s, r, rfl, rfl, by rw [G.K]; exact r1, h _ H1 ?_ x1⟩
    rw [← Option.some.inj e2, r2]
    exact j1.add fun _ => .bl _
theorem T_ninK {kvs : List (Str × D)} {px : Pos} (h : WDct Γ x kvs) (hg : sc.names.lookup x = some .globalImplicit) (ha : SV Γ sc p e ma) (hd : (x == ("__debug__" : Str)) = false := by decide) (hm : behindInMarks .NotIn (.Name x px) = false := by rfl) : ST Γ sc p (.Compare e [.NotIn] [.Name x px] pos) (mTru (mV1 (ninK kvs) ma)) := fun X W G T => by
  obtain ⟨d, es, k, h1, h2, h3⟩ := h.ex
  refine PT.imp (pt_cmpR (op_notIn_kd (by rw [G.K, G.w]; exact h2)) (ha X W G T) (pe_name_ref G h1 hg hd) hm) fun σ H Q => rd_test (mV1_bl ninK_bl) fun σ H Q ⟨b, env, F, j, h⟩ => ?_
  refine ⟨b, env, F, j, PoV.into (PoE Γ.g b p W σ H F Q) (fun _ _ _ h => h) (fun h => h) h fun dx e1 v H1 h j1 w x1 => ?_⟩
  cases e2 : ninK kvs dx with
  | none => rw [e2] at h; exact h.elim
  | some z =>
    rw [e2] at h
    cases w <;> try (cases e2; done)
    rename_i s
    obtain ⟨r, r1, r2⟩ := WDct.some h3 (z := s)
    refine ⟨s, r, rfl, rfl, by rw [G.K]; exact r1, h _ H1 ?_ x1⟩
    rw [← Option.some.inj e2, r2]
    exact j1.add fun _ => .bl _
/-! ### a list and an owned one, which stays -/
def mAddN (ma : M D) (i : Nat) : M D := fun env => (ma env).bind fun d e => match d, e[i]? with
  | .lst _ xs, some (some (.lst _ ys)) => if isFrzL ys = true ∧ xs.length + ys.length ≤ sizeLine then .ok (.lst true (xs ++ ys)) e else .bad
  | _, _ => .bad
theorem SJ.addAll {g : Glb} {b : Bs} {H : Hp} {σ : Sg} {env : En} {F : Prs} {v : V} {o : Bool} {ys : List D} (k : Lk g b H σ env F v (.lst o ys)) (hf : isFrzL ys = true) : ∃ a vs, v = .ref a ∧ SqL g.K H a vs ∧ vs.length = ys.length ∧ SJ g b H σ env (vs.zip ys ++ F) := by
  obtain ⟨ps, A, B, h1, h2, h3, h4, h5, h6⟩ := k
  have go : ∀ {vs : List V} {C : List Addr}, RepL g H (· ∈ A) vs ys C → SJ g b H σ env (vs.zip ys ++ F) := fun {vs C} r => by
    obtain rfl := RepL.nil_of (frzL_of hf) r
    obtain ⟨C1, C2, rfl, r1, r2⟩ := h2.split
    exact ⟨ps, h1, C1 ++ C2, r1.app (RepP.app (A := []) r.pairs r2), h3, h4⟩
  cases h6 with
  | lstF h z r => exact ⟨_, _, rfl, .inl h, r.length, go r⟩
  | lstK h r => exact ⟨_, _, rfl, h.sq, r.length, go r⟩
  | lstO h r => exact ⟨_, _, rfl, .of h, r.length, go r⟩
theorem SE_addN (i : Nat) {px : Pos} (hN : Γ.N[i]? = some x) (hv : Vis sc x) (ha : SE Γ sc p a ma) (hd : (x == ("__debug__" : Str)) = false := by decide) (hcd : (x == ("__classdict__" : Str)) = false := by decide) : SE Γ sc p (.BinOp a .Add (.Name x px) pos) (mAddN ma i) := fun X W G T =>
  PE.imp (pe_op (r := rCatL X.K) op_catL (ha X W G T) (pe_var (pos := px) (i := i) (by rw [G.N]; exact hN) (by rw [G.sc]; exact hv) hd hcd)) fun σ H Q ⟨b, env, F, j, h⟩ => ⟨b, env, F, j, PoE.into (PoE Γ.g b p W σ H F Q) (fun _ _ _ h => h) (fun h => h) h fun d e v H1 h j1 x1 => by
    split at h
    · rename_i o xs o' ys e0
      by_cases hz : isFrzL ys = true ∧ xs.length + ys.length ≤ sizeLine
      · rw [if_pos hz] at h
        obtain ⟨u, h1, k1⟩ := j1.lk e0
        obtain ⟨c, ws, rfl, h2, l2, j2⟩ := SJ.addAll k1 hz.1
        obtain ⟨a, vs, rfl, h3, l3, j3⟩ := SJ.readL (F := ws.zip ys ++ F) (j2.perm List.perm_middle)
        refine ⟨.ref c, h1, a, c, vs, ws, rfl, rfl, by rw [G.K]; exact h3, by rw [G.K]; exact h2, by rw [l2, l3]; exact hz.2, fun p hp => ?_⟩
        refine h _ _ (SJ.newLst hp (by rw [List.length_append, List.length_append, l2, l3]) ?_) fun q => (x1 q).trans (Ext.new hp)
        rw [List.zip_append l3, List.append_assoc]
        exact j3
      · rw [if_neg hz] at h
        exact h.elim
    · exact h.elim⟩
/-! ### a < b < c, readers -/
def rChain (f f' : D → D → Option D) (na nb nc : Rdr) : En → Option Bool := fun env => match rBin f na nb env with
  | some (.bl true) => (match rBin f' nb nc env with
    | some (.bl t) => some t
    | _ => none)
  | some (.bl false) => some false
  | _ => none
def mChT (f f' : D → D → Option D) (na nb nc : Rdr) : M Bool := fun env => match rChain f f' na nb nc env with
  | some t => .ok t env
  | none => .bad
theorem TRchain {co co' : CmpOp} {f f' : D → D → Option D} (o : Op2 Γ sc (compareOp co) f) (o' : Op2 Γ sc (compareOp co') f') (ha : SR Γ sc a na) (hb : SR Γ sc c nb) (hc : SR Γ sc e nc) (hm : lastMarks [co, co'] [c, e] = false := by with_unfolding_all rfl) : ST Γ sc true (.Compare a [co, co'] [c, e] pos) (mChT f f' na nb nc) := fun X W G T => by
  obtain ⟨r, h1, h2⟩ := o.of X G
  obtain ⟨r', h1', h2'⟩ := o'.of X G
  refine PT.imp (pt_chain h1 h1' (ha X G) (hb X G) (hc X G) hm) fun σ H Q ⟨b, env, F, j, h⟩ => ?_
  unfold mChT rChain at h
  cases q : rBin f na nb env with
  | none => rw [q] at h; exact h.elim
  | some z =>
    obtain ⟨x, y, g1, g2, g3⟩ := rBin_some q
    refine ⟨b, env, F, x, j, g1, fun v k1 => ⟨b, env, F, y, j, g2, fun u k2 => h2 H v u x y z _ k1.vw k2.vw g3 fun t rt => ?_⟩⟩
    rw [q] at h
    cases z <;> try exact h.elim
    rename_i t1
    have et : t = .bl t1 := by
      have := rt H (fun _ => False)
      cases this
      rfl
    cases t1 with
    | false => exact ⟨false, et, ⟨false, rfl, h H j fun _ => Ext.refl H⟩⟩
    | true =>
      dsimp only at h
      cases q2 : rBin f' nb nc env with
      | none => rw [q2] at h; exact h.elim
      | some z2 =>
        rw [q2] at h
        obtain ⟨y', w', g4, g5, g6⟩ := rBin_some q2
        cases g2.symm.trans g4
        refine ⟨true, et, b, env, F, w', j, g5, fun v3 k3 => h2' H u v3 y w' z2 _ k2.vw k3.vw g6 fun t2 rt2 => ?_⟩
        cases z2 <;> try exact h.elim
        rename_i t3
        have et2 : t2 = .bl t3 := by
          have := rt2 H (fun _ => False)
          cases this
          rfl
        exact ⟨t3, et2, h H j fun _ => Ext.refl H⟩
end
end TL
end

-- text TL23
section
set_option Elab.async false
set_option linter.all false
set_option maxRecDepth 100000
set_option maxHeartbeats 4000000
namespace TL
open PySem PySem.Spec PyProof.Rows L2

/-! ### raise -/
/-- what the __init__ of an exception with one field keeps -/
def spInit (C : Addr) (f : Str) : Sp := fun vs H Q _ => ∃ a v, vs = [.ref a, v] ∧ H a = some (exo a C none) ∧ ∀ d, H d = none → d ≠ a → Q .non (upd (upd H d (exd d [(f, v)])) a (exo a C (some d)))
theorem init_ok {P : Program} {w : World} {K : PySem.W.Frag} {mg : Str → Option Value} {base : Heap} {q f y : Str} {st : Stmt} {fI C : Addr} {fd : FuncData} {p1 p2 p3 pos : Pos} (F : Fun K "__init__" q st fI fd) (S : FnScope ["self", y] ["self", y] (defScope st)) (hb : defBody st = [.Assign [.Attribute (.Name "self" p1) f p2] (.Name y p3) pos])
    (v0 : Vis (defScope st) "self") (v1 : Vis (defScope st) y) (hd : (y == ("__debug__" : Str)) = false) (hcd : (y == ("__classdict__" : Str)) = false) (T : OexC K C) (hno : PySem.W.findIn K (.ref C) f = some none) :
    FnOk P w K mg base (L2.CX P w) 1 fI fd ["self", y] (spInit C f) :=
  L2.Fun.okX F S (fun vs H Q E ⟨a, v, e, _⟩ => by rw [e]; rfl) fun cdv A outer s H vs Q E hr ⟨a, v, e, h1, h2⟩ => by
    subst e
    rw [hb]
    refine ⟨_, pss_one (ps_ost (pe_var (i := 0) rfl v0 rfl rfl) (pe_var (i := 1) rfl v1 hd hcd)), ?_⟩
    exact ⟨v, rfl, .ref a, rfl, a, C, rfl, T, hno, .inl ⟨h1, fun dx n ne => h2 dx n ne⟩⟩
/-- c: an exception of the text, with one field f, given at its making -/
structure Exc1 (Γ : Cs) (c f : Str) : Prop where
  ex : ∃ (C fI : Addr) (fd : FuncData) (y : Str), Γ.mg c = some (.ref C) ∧ Γ.g.cls c = some C ∧ OexC Γ.g.K C ∧ PySem.W.findIn Γ.g.K (.ref C) "__init__" = some (some (.ref fI)) ∧ PySem.W.typeIn Γ.g.K (.ref fI) = some (.type "function") ∧
    FnOk Γ.P Γ.w Γ.g.K Γ.mg Γ.base (L2.CX Γ.P Γ.w) 1 fI fd ["self", y] (spInit C f) ∧ Binds Γ.g.K fd ["self", y] []
  rm : 2 ≤ Γ.k
section
variable {Γ : Cs} {sc : Scope} {p pa pb pc : Bool} {B : List Nat} {e : Expr} {ma mb : M D} {ms : M (List D)} {pos : Pos} {x c f : Str}
def sRaise (c f : Str) (ma : M D) : MS := fun env => (ma env).s fun d e => .exc c [(f, d)] e
theorem SS_raise {pn pc : Pos} (X1 : Exc1 Γ c f) (hg : sc.names.lookup c = some .globalImplicit) (ha : SE Γ sc p e ma) (hdb : (c == ("__debug__" : Str)) = false := by decide) (he : ∀ X : Cx, starEach [e] X.env = (false, eval e X.env) :: starEach [] X.env := by intro _; rfl) :
    SS Γ sc B (.Raise (some (.Call (.Name c pn) [e] [] pc)) none pos) (sRaise c f ma) := fun X W G T hf => by
  obtain ⟨C, fI, fd, y, h1, h2, h3, h4, h5, h6, h7⟩ := X1.ex
  have mk := pmk_oex (X := X) (pos := pc) (p := pn) (k := 1) (by rw [G.K]; exact h3) (by rw [G.K]; exact h4) (by rw [G.K]; exact h5) (by rw [G.prog, G.w, G.K, G.mg, G.base]; exact h6) (G.room.mono X1.rm) (by rw [G.K]; exact h7) .nil (fun _ _ _ _ _ _ _ z => by
    obtain ⟨_, _, _, _, _, _, _, _, _, _, _, _, z⟩ := z
    exact z.elim) (gl_of hg G.sc) (by rw [G.mg]; exact h1) (pa_cons (ha X W G T) pa_nil (he X)) hdb (he X) rfl
  refine PS.imp (ps_raise G.calm T mk) fun D σ H ⟨φ, hB, env, j, hp, h⟩ => ?_
  refine ⟨φ.b, env, φ.F, j, PoE.ofS (fun d e => .exc c [(f, d)] e) hp h fun d e v H1 h j1 x1 => ?_⟩
  refine ⟨by show 1 ≤ 1000; decide, fun a hn => ?_⟩
  rw [List.append_nil]
  refine ⟨a, v, rfl, upd_same, fun d hd ne => ⟨rfl, d, [(f, v)], upd_same, by rw [upd_ne ne, upd_same], ?_, ?_⟩⟩
  · rw [upd_ne ne] at hd
    exact hd
  · have hd1 : H1 d = none := by
      rw [upd_ne ne] at hd
      exact hd
    have ext : Ext H1 (upd (L2.del (upd (upd (upd H1 a (exo a C none)) d (exd d [(f, v)])) a (exo a C (some d))) a) d (.xd [(f, v)])) := fun q o hq => by
      have qa : q ≠ a := ne_of_none hq hn
      have qd : q ≠ d := ne_of_none hq hd1
      rw [upd_ne qd, del_ne qa, upd_ne qa, upd_ne qd, upd_ne qa]
      exact hq
    exact h σ C d _ [(f, v)] h2 upd_same rfl (SJ.ext ext j1) hp
end
end TL
end

-- text TL24
section
set_option Elab.async false
set_option linter.all false
set_option maxRecDepth 100000
set_option maxHeartbeats 4000000
namespace TL
open PySem PySem.Spec PyProof.Rows L2

/-- so often at most does a while turn -/
@[irreducible] def fuel0 : Nat := 1000000
/-! ### dicts made -/
def mergeD (kvs more : List (Key × D)) : List (Key × D) := more.foldl (fun acc kv => putD acc kv.1 kv.2) kvs
section
variable {g : Glb} {b : Bs} {H : Hp} {σ : Sg} {env : En} {F : Prs}
/-- what follows of one that owns nothing -/
theorem SJ.dig {α : Type} {v : V} {d : D} {Φ : α → Prs → Prop} (hf : isFrz d = true) (j : SJ g b H σ env ((v, d) :: F)) (h : ∀ Z, Rep g H Z v d [] → ∃ x qs, Φ x qs ∧ RepP g H Z qs []) : ∃ x qs, Φ x qs ∧ SJ g b H σ env (qs ++ F) := by
  obtain ⟨ps, s, A, r, n, w⟩ := j
  obtain ⟨B, C, rfl, h1, h2⟩ := r.split
  obtain ⟨D1, E1, rfl, h3, h4⟩ := h2.inv
  obtain rfl := Rep.nil_of (frz_of hf) h3
  obtain ⟨x, qs, hx, hq⟩ := h _ h3
  exact ⟨x, qs, hx, ps, s, B ++ ([] ++ E1), h1.app (RepP.app (A := []) hq h4), n, w⟩
theorem SJ.conv {ps qs : Prs} (hf : isFrzL (ps.map (·.2)) = true) (h : ∀ Z, RepP g H Z ps [] → RepP g H Z qs []) (j : SJ g b H σ env (ps ++ F)) : SJ g b H σ env (qs ++ F) := by
  obtain ⟨rs, s, A, r, n, w⟩ := j
  obtain ⟨B, C, rfl, h1, h2⟩ := r.split
  obtain ⟨D1, E1, rfl, h3, h4⟩ := h2.split
  obtain rfl : D1 = [] := RepL.nil_of (frzL_of hf) h3
  exact ⟨rs, s, B ++ ([] ++ E1), h1.app (RepP.app (A := []) (h _ h3) h4), n, w⟩
theorem repl_put {Z : Addr → Prop} {v : V} {d : D} (h : Rep g H Z v d []) (k : Key) {es : List (Key × V)} {kvs : List (Key × D)} (e : es.map (·.1) = kvs.map (·.1)) (r : RepL g H Z (es.map (·.2)) (kvs.map (·.2)) []) : RepL g H Z ((L2.putK es k v).map (·.2)) ((putD kvs k d).map (·.2)) [] := by
  unfold L2.putK putD
  rw [any_keys k e]
  by_cases q : (kvs.any fun kv => decide (kv.1 = k)) = true
  · rw [if_pos q, if_pos q]
    obtain ⟨B, s, r'⟩ := RepL.repl h k e r
    obtain rfl := List.sublist_nil.mp s
    exact r'
  · rw [if_neg q, if_neg q, List.map_append, List.map_append]
    exact RepL.app (A := []) (B := [] ++ []) r (.cons h .nil)
theorem repl_merge {Z : Addr → Prop} : ∀ {es : List (Key × V)} {kvs : List (Key × D)} {acc : List (Key × V)} {acd : List (Key × D)}, es.map (·.1) = kvs.map (·.1) → acc.map (·.1) = acd.map (·.1) → RepL g H Z (es.map (·.2)) (kvs.map (·.2)) [] → RepL g H Z (acc.map (·.2)) (acd.map (·.2)) [] →
    (L2.mergeK acc es).map (·.1) = (mergeD acd kvs).map (·.1) ∧ RepL g H Z ((L2.mergeK acc es).map (·.2)) ((mergeD acd kvs).map (·.2)) []
  | [], [], acc, acd, _, e2, _, r2 => ⟨e2, r2⟩
  | [], _ :: _, _, _, e, _, _, _ => nomatch e
  | _ :: _, [], _, _, e, _, _, _ => nomatch e
  | (k1, v) :: es, (k2, d) :: kvs, acc, acd, e, e2, r, r2 => by
    obtain ⟨h1, h2⟩ := List.cons.inj e
    have h1' : k1 = k2 := h1
    subst h1'
    obtain ⟨A, B, e0, ra, rb⟩ := RepL.inv r
    have e0' := List.append_eq_nil_iff.mp e0.symm
    rw [e0'.1] at ra
    rw [e0'.2] at rb
    exact repl_merge (acc := L2.putK acc k1 v) (acd := putD acd k1 d) h2 (keys_put k1 v d e2) rb (repl_put ra k1 e2 r2)
theorem keys_merge : ∀ {es : List (Key × V)} {kvs : List (Key × D)} {acc : List (Key × V)} {acd : List (Key × D)}, es.map (·.1) = kvs.map (·.1) → acc.map (·.1) = acd.map (·.1) → (L2.mergeK acc es).map (·.1) = (mergeD acd kvs).map (·.1)
  | [], [], acc, acd, _, e2 => e2
  | [], _ :: _, _, _, e, _ => nomatch e
  | _ :: _, [], _, _, e, _ => nomatch e
  | (k1, v) :: es, (k2, d) :: kvs, acc, acd, e, e2 => by
    obtain ⟨h1, h2⟩ := List.cons.inj e
    have h1' : k1 = k2 := h1
    subst h1'
    exact keys_merge (acc := L2.putK acc k1 v) (acd := putD acd k1 d) h2 (keys_put k1 v d e2)
theorem pairs_merge {es : List (Key × V)} {kvs : List (Key × D)} (e : es.map (·.1) = kvs.map (·.1)) (Z : Addr → Prop) (h : RepP g H Z ((es.map (·.2)).zip (kvs.map (·.2))) []) : RepP g H Z (((L2.mergeK [] es).map (·.2)).zip ((mergeD [] kvs).map (·.2))) [] := by
  have l : (es.map (·.2)).length = (kvs.map (·.2)).length := by
    rw [List.length_map, List.length_map]
    simpa using congrArg List.length e
  exact RepL.pairs (repl_merge (acc := []) (acd := []) e rfl (RepP.items l h) .nil).2
end
/-! {..} -/
def mPs : List (M D × M D) → M (List (Key × D))
  | [] => fun env => .ok [] env
  | (mk, mv) :: r => fun env => (mk env).bind fun dk e => match keyOf dk with
    | none => .bad
    | some k => (mv e).bind fun dv e => (mPs r e).bind fun kvs e => .ok ((k, dv) :: kvs) e
def PoPs (g : Glb) (b : Bs) (W : L2.WX) (σ : Sg) (F : Prs) (Q : List (V × V) → Hp → Prop) : Rs (List (Key × D)) → Prop
  | .ok kvs e => ∀ (es : List (Key × V)) H', es.map (·.1) = kvs.map (·.1) → SJ g b H' σ e ((es.map (·.2)).zip (kvs.map (·.2)) ++ F) → Q (es.map fun kv => (kV kv.1, kv.2)) H'
  | .exc c fs e => XW g b W σ F e c fs
  | .bad => False
def rdPs (g : Glb) (W : L2.WX) (m : M (List (Key × D))) : L2.St → Hp → (List (V × V) → Hp → Prop) → Prop := fun σ H Q => ∃ b env F, SJ g b H σ env F ∧ PoPs g b W σ F Q (m env)
def SPs (Γ : Cs) (sc : Scope) (ks : List (Option Expr)) (vs : List Expr) (l : List (M D × M D)) : Prop := ∀ X W, Good Γ sc X → Takes X W → ∀ pos, ∃ trs, PPs X pos ks vs trs ∧ ∀ σ H Q, rdPs Γ.g W (mPs l) σ H Q → tPairs trs σ H Q
section
variable {Γ : Cs} {sc : Scope} {p pa pb pc : Bool} {k v e : Expr} {ks : List (Option Expr)} {vs : List Expr} {l : List (M D × M D)} {mk mv : M D} {ms : M (List D)} {pos : Pos} {pn : Pos}
theorem SPs_nil : SPs Γ sc [] [] [] := fun X W G T pos => ⟨[], pps_nil, fun σ H Q ⟨b, env, F, j, h⟩ => h [] H rfl j⟩
theorem SPs_cons (hk : SE Γ sc pa k mk) (hv : SE Γ sc pb v mv) (hr : SPs Γ sc ks vs l) : SPs Γ sc (some k :: ks) (v :: vs) ((mk, mv) :: l) := fun X W G T pos => by
  obtain ⟨trs, h1, h2⟩ := hr X W G T pos
  refine ⟨_, pps_cons (hk X W G T) (hv X W G T) h1, fun σ H Q ⟨b, env, F, j, h⟩ => ?_⟩
  refine ⟨b, env, F, j, ?_⟩
  unfold mPs at h
  cases q1 : mk env with
  | bad => rw [q1] at h; exact h.elim
  | exc c fs e => rw [q1] at h; exact h
  | ok dk e1 =>
    rw [q1] at h
    intro x H1 j1 _
    have h' : PoPs Γ.g b W σ F Q (match keyOf dk with | none => .bad | some k => (mv e1).bind fun dv e => (mPs l e).bind fun kvs e => .ok ((k, dv) :: kvs) e) := h
    cases qk : keyOf dk with
    | none => rw [qk] at h'; exact h'.elim
    | some key =>
      rw [qk] at h'
      dsimp only at h'
      have ex := keyOf_v j1.vwF qk
      refine ⟨b, e1, F, j1.drop, ?_⟩
      cases q2 : mv e1 with
      | bad => rw [q2] at h'; exact h'.elim
      | exc c fs e => rw [q2] at h'; exact h'
      | ok dv e2 =>
        rw [q2] at h'
        intro y H2 j2 _
        refine h2 σ H2 _ ⟨b, e2, (y, dv) :: F, j2, ?_⟩
        have h3 : PoPs Γ.g b W σ F Q ((mPs l e2).bind fun kvs e => .ok ((key, dv) :: kvs) e) := h'
        cases q3 : mPs l e2 with
        | bad => rw [q3] at h3; exact h3.elim
        | exc c fs e => rw [q3] at h3; exact XW.more h3
        | ok kvs e3 =>
          rw [q3] at h3
          intro es H3 he j3
          have h4 := h3 ((key, y) :: es) H3 (by rw [List.map_cons, List.map_cons, he]) (j3.perm List.perm_middle)
          rw [ex]
          exact h4
def mDct (l : List (M D × M D)) : M D := fun env => (mPs l env).bind fun kvs e => if isFrzL (kvs.map (·.2)) = true then .ok (.dct true (mergeD [] kvs)) e else .bad
theorem mPs_len : ∀ {l : List (M D × M D)} {env : En} {kvs : List (Key × D)} {e : En}, mPs l env = .ok kvs e → kvs.length = l.length
  | [], env, kvs, e, h => by
    unfold mPs at h
    injection h with h1 _
    rw [← h1]
    rfl
  | (mk, mv) :: r, env, kvs, e, h => by
    unfold mPs at h
    cases q1 : mk env with
    | bad => rw [q1] at h; cases h
    | exc c fs e => rw [q1] at h; cases h
    | ok dk e1 =>
      rw [q1] at h
      have h' : (match keyOf dk with | none => (.bad : Rs (List (Key × D))) | some k => (mv e1).bind fun dv e => (mPs r e).bind fun kvs e => .ok ((k, dv) :: kvs) e) = .ok kvs e := h
      cases qk : keyOf dk with
      | none => rw [qk] at h'; cases h'
      | some key =>
        rw [qk] at h'
        dsimp only at h'
        cases q2 : mv e1 with
        | bad => rw [q2] at h'; cases h'
        | exc c fs e => rw [q2] at h'; cases h'
        | ok dv e2 =>
          rw [q2] at h'
          have h3 : ((mPs r e2).bind fun kvs e => .ok ((key, dv) :: kvs) e) = .ok kvs e := h'
          cases q3 : mPs r e2 with
          | bad => rw [q3] at h3; cases h3
          | exc c fs e => rw [q3] at h3; cases h3
          | ok kvs' e3 =>
            rw [q3] at h3
            injection h3 with h4 _
            rw [← h4]
            exact congrArg Nat.succ (mPs_len q3)
theorem SE_dct (h : SPs Γ sc ks vs l) (hall : ks.all (·.isSome) = true) (hl : ks.length = vs.length) (h0 : ks ≠ []) (h15 : ks.length ≤ 15 ∧ l.length ≤ 15) : SE Γ sc false (.Dict ks vs pos) (mDct l) := fun X W G T => by
  obtain ⟨trs, h1, h2⟩ := h X W G T pos
  refine PE.imp (pe_disp h1 hall hl h0 h15.1) fun σ H Q ⟨b, env, F, j, h⟩ => fun p hp => ?_
  have j1 : SJ Γ.g b (upd H p (.dK [])) σ env ((.ref p, .dct true []) :: F) := SJ.newDct (es := []) (kvs := []) hp rfl j
  refine h2 σ _ _ ⟨b, env, _, j1, ?_⟩
  unfold mDct at h
  cases q : mPs l env with
  | bad => rw [q] at h; exact h.elim
  | exc c fs e => rw [q] at h; exact XW.more h
  | ok kvs e =>
    rw [q] at h
    intro es H2 he j2
    have h' : PoE Γ.g b false W σ H F Q (if isFrzL (kvs.map (·.2)) = true then .ok (.dct true (mergeD [] kvs)) e else .bad) := h
    by_cases hf : isFrzL (kvs.map (·.2)) = true
    · rw [if_pos hf] at h'
      have ll : (es.map (·.2)).length = (kvs.map (·.2)).length := by
        rw [List.length_map, List.length_map]
        simpa using congrArg List.length he
      have j3 := SJ.conv (by rw [zip_snd ll]; exact hf) (pairs_merge he) j2
      obtain ⟨a, es0, ea, e0, k0, j4⟩ := SJ.openDct (F := ((L2.mergeK [] es).map (·.2)).zip ((mergeD [] kvs).map (·.2)) ++ F) (j3.perm List.perm_middle)
      obtain rfl := V.ref.inj ea
      obtain rfl : es0 = [] := List.map_eq_nil_iff.mp k0
      refine ⟨e0, es, rfl, ?_, h' _ _ (SJ.closeDct (keys_merge (acc := []) (acd := []) he rfl) j4) fun z => by cases z⟩
      have := congrArg List.length he
      simp only [List.length_map] at this
      rw [this, mPs_len q]
      exact h15.2
    · rw [if_neg hf] at h'
      exact h'.elim
def mDct0 : M D := fun env => .ok (.dct true []) env
theorem SE_dct0 : SE Γ sc true (.Dict [] [] pos) mDct0 := fun X W G T => PE.imp pe_dnewK fun σ H Q ⟨b, env, F, j, h⟩ p hp => h (.ref p) _ (SJ.newDct (es := []) (kvs := []) hp rfl j) fun _ => Ext.new hp
/-! dict(pairs) -/
def prsOf : List D → Option (List (Key × D))
  | [] => some []
  | .tup [dk, dv] :: r => (keyOf dk).bind fun k => (prsOf r).map ((k, dv) :: ·)
  | _ => none
def fDict : List D → Option D
  | [.lst _ prs] => (prsOf (frzL prs)).map fun kvs => .dct true (mergeD [] kvs)
  | [.dct _ kvs] => some (.dct true kvs)
  | _ => none
theorem keyOf_rep {g : Glb} {H : Hp} {Z : Addr → Prop} {x : V} {d : D} {A : List Addr} {k : Key} (w : Rep g H Z x d A) (e : keyOf d = some k) : x = kV k := keyOf_v w.vw e
theorem prs_rep {g : Glb} {H : Hp} {Z : Addr → Prop} : ∀ {prs : List D} {vs : List V} {kvs : List (Key × D)}, RepL g H Z vs prs [] → prsOf prs = some kvs → ∃ (as : List Addr) (es : List (Key × V)), vs = as.map V.ref ∧ Paired (fun p kv => SqT g.K H p [kV kv.1, kv.2]) as es ∧ es.map (·.1) = kvs.map (·.1) ∧ RepL g H Z (es.map (·.2)) (kvs.map (·.2)) []
  | [], vs, kvs, r, h => by
    cases Option.some.inj h
    cases r
    exact ⟨[], [], rfl, .nil, rfl, .nil⟩
  | d :: prs, vs, kvs, r, h => by
    cases vs with
    | nil => cases r
    | cons v vs =>
    obtain ⟨A, B, e0, ra, rb⟩ := RepL.inv r
    have e0' := List.append_eq_nil_iff.mp e0.symm
    rw [e0'.1] at ra
    rw [e0'.2] at rb
    unfold prsOf at h
    split at h
    · rename_i heq
      cases heq
    · rename_i dk dv r' heq
      obtain ⟨h1, h2⟩ := List.cons.inj heq
      subst h1 h2
      obtain ⟨k, hk, h3⟩ := Option.bind_eq_some_iff.mp h
      obtain ⟨kvs', h4, h5⟩ := Option.map_eq_some_iff.mp h3
      obtain ⟨as, es, e1, p1, k1, r1⟩ := prs_rep rb h4
      have go : ∀ {a : Addr} {us : List V}, SqT g.K H a us → RepL g H Z us [dk, dv] [] → ∃ y, us = [kV k, y] ∧ Rep g H Z y dv [] := fun {a us} hs rr => by
        have lu := rr.length
        obtain ⟨x, y, rfl⟩ : ∃ x y, us = [x, y] := by
          clear hs rr
          match us, lu with
          | [x, y], _ => exact ⟨x, y, rfl⟩
        · obtain ⟨C1, C2, e2, r2, r3⟩ := RepL.inv rr
          have e2' := List.append_eq_nil_iff.mp e2.symm
          rw [e2'.2] at r3
          obtain ⟨C3, C4, e3, r4, _⟩ := RepL.inv r3
          have e3' := List.append_eq_nil_iff.mp e3.symm
          rw [e3'.1] at r4
          exact ⟨y, by rw [keyOf_rep r2 hk], r4⟩
      rw [← h5]
      cases ra with
      | tupH hh z rr =>
        obtain ⟨y, eu, ry⟩ := go (.inl hh) rr
        subst eu
        exact ⟨_ :: as, (k, y) :: es, by rw [e1]; rfl, .cons (.inl hh) p1, by rw [List.map_cons, List.map_cons, k1], RepL.cons (A := []) ry r1⟩
      | tupK hh rr =>
        obtain ⟨y, eu, ry⟩ := go hh.sq rr
        subst eu
        exact ⟨_ :: as, (k, y) :: es, by rw [e1]; rfl, .cons hh.sq p1, by rw [List.map_cons, List.map_cons, k1], RepL.cons (A := []) ry r1⟩
    · cases h
theorem b_dict {g : Glb} : BOp g fDict (fun xs H Q => (∃ (a : Addr) (ps : List Addr) (kvs : List (Key × V)), xs = [.ref a] ∧ SqL g.K H a (ps.map V.ref) ∧ Paired (fun p kv => SqT g.K H p [kV kv.1, kv.2]) ps kvs ∧
    ∀ p, H p = none → Q (.ref p) (upd H p (.dK (mergeK [] kvs)))) ∨ (∃ (a : Addr) (kvs : List (Key × V)), xs = [.ref a] ∧ Rd H a (.dK kvs) ∧ ∀ p, H p = none → Q (.ref p) (upd H p (.dK kvs)))) := fun b H σ env F vs ds dz Q l j e q => by
  obtain ⟨v, d, rfl, rfl⟩ := arg1 l (fun a b r => by cases a <;> rfl) rfl e
  cases d <;> try (cases e; done)
  · rename_i o prs
    obtain ⟨kvs, h1, h2⟩ := Option.map_eq_some_iff.mp (show (prsOf (frzL prs)).map (fun kvs => D.dct true (mergeD [] kvs)) = some dz from e)
    have j1 : SJ g b H σ env ((v, .lst false (frzL prs)) :: F) := SJ.freeze (F := F) j
    obtain ⟨⟨a, as, es⟩, qs, ⟨x1, x2, x3, x4, x5⟩, j2⟩ := SJ.dig (α := Addr × List Addr × List (Key × V)) (Φ := fun x qs => v = .ref x.1 ∧ SqL g.K H x.1 (x.2.1.map V.ref) ∧ Paired (fun p kv => SqT g.K H p [kV kv.1, kv.2]) x.2.1 x.2.2 ∧ x.2.2.map (·.1) = kvs.map (·.1) ∧ qs = ((L2.mergeK [] x.2.2).map (·.2)).zip ((mergeD [] kvs).map (·.2)))
      (show isFrz (.lst false (frzL prs)) = true from isFrz_frz (.lst o prs)) j1 (fun Z r => by
        cases r with
        | lstF hh z rr =>
          obtain ⟨as, es, e1, p1, k1, r1⟩ := prs_rep rr h1
          exact ⟨(_, as, es), _, ⟨rfl, by rw [← e1]; exact .inl hh, p1, k1, rfl⟩, RepL.pairs (repl_merge (acc := []) (acd := []) k1 rfl r1 .nil).2⟩
        | lstK hh rr =>
          obtain ⟨as, es, e1, p1, k1, r1⟩ := prs_rep rr h1
          exact ⟨(_, as, es), _, ⟨rfl, by rw [← e1]; exact hh.sq, p1, k1, rfl⟩, RepL.pairs (repl_merge (acc := []) (acd := []) k1 rfl r1 .nil).2⟩)
    subst x1 x5
    refine .inl ⟨a, as, es, rfl, x2, x3, fun p hp => q _ _ ?_ (Ext.new hp)⟩
    rw [← h2]
    exact SJ.newDct hp (keys_merge (acc := []) (acd := []) x4 rfl) j2
  · rename_i o kvs
    cases Option.some.inj e
    obtain ⟨a, es, rfl, h1, k1, j1⟩ := SJ.readD (F := F) j
    exact .inr ⟨a, es, rfl, h1, fun p hp => q _ _ (SJ.newDct hp k1 j1) (Ext.new hp)⟩
theorem E_dict (hB : Blt Γ sc "dict" (.type "dict")) (ha : SA Γ sc p [e] ms) (he : ∀ X : Cx, starEach [e] X.env = (false, eval e X.env) :: starEach [] X.env := by intro _; rfl) : SE Γ sc p (.Call (.Name "dict" pn) [e] [] pos) (mB fDict ms) :=
  E_t hB (fun X G => ⟨_, (call_dictP G.calm).or call_dictD, by rw [G.K]; exact b_dict⟩) ha he
/-! max([..]) -/
def fMax : List D → Option D
  | [.lst _ ds] => match intsOf ds with
    | some (n :: ns) => some (.int (ns.foldl max n))
    | _ => none
  | _ => none
theorem foldl_max : ∀ (ns : List Int) (n : Int), (ns.foldl max n = n ∨ ns.foldl max n ∈ ns) ∧ n ≤ ns.foldl max n ∧ ∀ y ∈ ns, y ≤ ns.foldl max n
  | [], n => ⟨.inl rfl, Int.le_refl n, fun y m => nomatch m⟩
  | x :: ns, n => by
    obtain ⟨h1, h2, h3⟩ := foldl_max ns (max n x)
    have m1 : n ≤ max n x := Int.le_max_left ..
    have m2 : x ≤ max n x := Int.le_max_right ..
    refine ⟨?_, Int.le_trans m1 h2, fun y m => ?_⟩
    · rcases h1 with h1 | h1
      · by_cases q : n ≤ x
        · exact .inr (List.mem_cons.mpr (.inl (h1.trans (Int.max_eq_right q))))
        · exact .inl (h1.trans (Int.max_eq_left (by omega)))
      · exact .inr (List.mem_cons_of_mem _ h1)
    · rcases List.mem_cons.mp m with rfl | m
      · exact Int.le_trans m2 h2
      · exact h3 y m
theorem b_max {g : Glb} : BOp g fMax (rMax g.K) := fun b H σ env F vs ds dz Q l j e q => by
  obtain ⟨v, d, rfl, rfl⟩ := arg1 l (fun a b r => by cases a <;> rfl) rfl e
  cases d <;> try (cases e; done)
  rename_i o xs
  have e' : (match intsOf xs with | some (n :: ns) => some (D.int (ns.foldl max n)) | _ => none) = some dz := e
  cases h1 : intsOf xs with
  | none => rw [h1] at e'; cases e'
  | some zs =>
    rw [h1] at e'
    cases zs with
    | nil => cases e'
    | cons n ns =>
      have w := SJ.vwF (F := F) j
      cases w with
      | @lst _ a vs _ h r =>
        rw [ints_vw r h1] at h
        refine ⟨a, n :: ns, rfl, h, Nat.succ_pos _, fun m hm hy => ?_⟩
        obtain ⟨f1, f2, f3⟩ := foldl_max ns n
        have em : m = ns.foldl max n := by
          refine Int.le_antisymm ?_ (hy _ ?_)
          · rcases List.mem_cons.mp hm with rfl | hm
            · exact f2
            · exact f3 m hm
          · rcases f1 with f1 | f1
            · rw [f1]; exact List.mem_cons_self
            · exact List.mem_cons_of_mem _ f1
        rw [em]
        exact q _ _ (SJ.add (fun _ => by rw [← Option.some.inj e']; exact .int _) (SJ.drop (F := F) j)) (Ext.refl H)
theorem E_max (hB : Blt Γ sc "max" (.builtin "max")) (ha : SA Γ sc p [e] ms) (he : ∀ X : Cx, starEach [e] X.env = (false, eval e X.env) :: starEach [] X.env := by intro _; rfl) : SE Γ sc p (.Call (.Name "max" pn) [e] [] pos) (mB fMax ms) :=
  E_b hB (fun X G => ⟨_, cr_max G.calm, by rw [G.K]; exact b_max⟩) ha he
end
end TL
end

-- text TL25
section
set_option Elab.async false
set_option linter.all false
set_option maxRecDepth 100000
set_option maxHeartbeats 4000000
namespace TL
open PySem PySem.Spec PyProof.Rows L2

/-! ### f(k = v, ..) -/
/-- the values in the order pm -/
def pmL {α : Type} (pm : List Nat) (xs : List α) : List α := pm.filterMap fun i => xs[i]?
theorem pmL_zip {α β : Type} {xs : List α} {ys : List β} (l : xs.length = ys.length) : ∀ pm : List Nat, (pmL pm xs).zip (pmL pm ys) = pmL pm (xs.zip ys)
  | [] => rfl
  | i :: pm => by
    have ih := pmL_zip l pm
    unfold pmL at ih ⊢
    by_cases h : i < xs.length
    · have h' : i < ys.length := by omega
      have hz : (xs.zip ys)[i]? = some (xs[i], ys[i]) := zip_get (List.getElem?_eq_getElem h) (List.getElem?_eq_getElem h')
      rw [List.filterMap_cons_some (List.getElem?_eq_getElem h), List.filterMap_cons_some (List.getElem?_eq_getElem h'), List.filterMap_cons_some hz, List.zip_cons_cons, ih]
    · have hz : (xs.zip ys)[i]? = none := List.getElem?_eq_none (by rw [List.length_zip]; omega)
      rw [List.filterMap_cons_none (List.getElem?_eq_none (by omega)), List.filterMap_cons_none (List.getElem?_eq_none (by omega)), List.filterMap_cons_none hz, ih]
theorem pmL_len {α β : Type} {xs : List α} {ys : List β} (l : xs.length = ys.length) : ∀ pm : List Nat, (pmL pm xs).length = (pmL pm ys).length
  | [] => rfl
  | i :: pm => by
    have ih := pmL_len l pm
    unfold pmL at ih ⊢
    by_cases h : i < xs.length
    · rw [List.filterMap_cons_some (List.getElem?_eq_getElem h), List.filterMap_cons_some (List.getElem?_eq_getElem (show i < ys.length by omega)), List.length_cons, List.length_cons, ih]
    · rw [List.filterMap_cons_none (List.getElem?_eq_none (by omega)), List.filterMap_cons_none (List.getElem?_eq_none (show ys.length ≤ i by omega)), ih]
theorem pmL_take {α : Type} (xs : List α) : ∀ n, n ≤ xs.length → pmL (List.range n) xs = xs.take n
  | 0, _ => rfl
  | n + 1, h => by
    have ih := pmL_take xs n (by omega)
    unfold pmL at ih ⊢
    rw [List.range_succ, List.filterMap_append, ih, List.take_succ, List.filterMap_cons_some (List.getElem?_eq_getElem (show n < xs.length by omega)), List.getElem?_eq_getElem (show n < xs.length by omega)]
    rfl
theorem pmL_range {α : Type} (xs : List α) : pmL (List.range xs.length) xs = xs := by
  rw [pmL_take xs _ (Nat.le_refl _), List.take_length]
theorem pmL_perm {α : Type} {pm : List Nat} {xs : List α} (h : pm.Perm (List.range xs.length)) : (pmL pm xs).Perm xs := by
  have p : (pmL pm xs).Perm (pmL (List.range xs.length) xs) := h.filterMap _
  rw [pmL_range] at p
  exact p
theorem pmL_vals {zs : List V} {ws : List Value} (h : Vals zs ws) : ∀ pm : List Nat, Vals (pmL pm zs) (pmL pm ws)
  | [] => .nil
  | i :: pm => by
    have ih := pmL_vals h pm
    unfold pmL at ih ⊢
    by_cases l : i < zs.length
    · obtain ⟨w, hw, rw'⟩ := h.get (i := i) (x := zs[i]) (List.getElem?_eq_getElem l)
      rw [List.filterMap_cons_some (List.getElem?_eq_getElem l), List.filterMap_cons_some hw]
      exact .cons rw' ih
    · have l2 : ws.length ≤ i := by rw [← h.length]; omega
      rw [List.filterMap_cons_none (List.getElem?_eq_none (by omega)), List.filterMap_cons_none (List.getElem?_eq_none l2)]
      exact ih
structure FkK (Γ : Cs) (x : Str) (md : List Bool) (ks : List Str) (pm : List Nat) : Prop where
  ex : ∃ (f : Addr) (fd : FuncData) (ps : List Str), FnOk Γ.P Γ.w Γ.g.K Γ.mg Γ.base (L2.CX Γ.P Γ.w) Γ.k f fd ps (spF Γ.g md (Γ.C x)) ∧ Γ.mg x = some (.ref f) ∧ PySem.W.keepIn Γ.g.K (.ref f) = true ∧
    (∀ (s : Shared) (ws : List Value), Γ.g.K.In s.heap → ws.length = ks.length → BindsTo s fd ⟨[], ks.zip ws⟩ (ps.zip (pmL pm ws))) ∧ ps.length = md.length
  pm : pm.Perm (List.range ks.length)
  len : md.length = ks.length
def noB (md : List Bool) : List (Option Nat) := md.map fun _ => none
def mCallK (f : List D → CR) (md : List Bool) (pm : List Nat) (ms : M (List D)) : M D := fun e => (ms e).bind fun ds e => (f (pmL pm ds)).back md (noB md) e
def SK (Γ : Cs) (sc : Scope) (p : Bool) (kws : List Keyword) (m : M (List D)) : Prop := ∀ X W, Good Γ sc X → Takes X W → PK X kws (rdA Γ.g p W m)
section
variable {Γ : Cs} {sc : Scope} {p pa pb : Bool} {e : Expr} {es : List Expr} {kws : List Keyword} {bs : List (Option Nat)} {ma : M D} {ms : M (List D)} {pos kpos : Pos} {nm : Option Str} {x : Str}
theorem PK.imp {X : Cx} {t t' : TA} (h : PK X kws t) (i : ∀ σ H Q, t' σ H Q → t σ H Q) : PK X kws t' := ⟨fun pos pins s σ H Q I hw => h.run pos pins s σ H Q I (i σ H Q hw)⟩
theorem SK_nil : SK Γ sc true [] mNil := fun X W G T => PK.imp pk_nil fun σ H Q ⟨b, env, F, j, h⟩ => h [] H rfl j fun _ => Ext.refl H
theorem SK_cons (ha : SE Γ sc pa e ma) (hr : SK Γ sc pb kws ms) : SK Γ sc (pa && pb) (⟨nm, e, kpos⟩ :: kws) (mCons ma ms) := fun X W G T =>
  PK.imp (pk_cons (ha X W G T) (hr X W G T)) fun σ H Q ⟨b, env, F, j, h⟩ => ⟨b, env, F, j, PoE.into (PoA Γ.g b (pa && pb) W σ H F Q) (fun _ _ _ h => h) (fun h => h) h fun dx e1 x H1 h j1 x1 =>
    ⟨b, e1, (x, dx) :: F, j1, PoA.into (PoA Γ.g b (pa && pb) W σ H F Q) (fun _ _ _ h => XW.more h) (fun h => h) h fun ds e2 vs H2 h l j2 x2 =>
      h (x :: vs) H2 (congrArg Nat.succ l) (j2.perm List.perm_middle) (ext_and x1 x2)⟩⟩
theorem slots_no {σ : Sg} : ∀ {md : List Bool} {vs : List V}, vs.length = md.length → Slots σ (noB md) vs
  | [], [], _ => .nil
  | m :: md, v :: vs, h => .no (slots_no (md := md) (Nat.succ.inj h))
  | [], _ :: _, h => nomatch h
  | _ :: _, [], h => nomatch h
theorem run_fnKS {X : Cx} {W : L2.WX} {k : Nat} {f : Addr} {fd : FuncData} {ps ks : List Str} {pm : List Nat} {sp : Sp} {pins : List (Addr × Obj)} {σ : L2.St} {H : Hp} {s : Shared} {Q : VK} {ws : List Value} {zs : List V} (F : FnOk X.prog X.w X.K X.mg X.base (L2.CX X.prog X.w) k f fd ps sp) (hr : Room k X.A)
    (hb : ∀ (s : Shared) (ws : List Value), X.K.In s.heap → ws.length = ks.length → BindsTo s fd ⟨[], ks.zip ws⟩ (ps.zip (pmL pm ws))) (T : Takes X W) (I : Inv X pins σ H s) (rz : Vals zs ws) (hl : ws.length = ks.length) (h : sp (pmL pm zs) H Q (fun cls d H' => W cls d σ H')) :
    wpAny (model X.prog X.w) X.A (call (.ref f) [] (ks.zip ws)) (EP X pins σ Q) X.xe s := by
  refine wpAny_call (codeAny_mono (F.run X.A X.stack s H ⟨[], ks.zip ws⟩ (pmL pm ws) (pmL pm zs) Q _ hr I.env0 (hb s ws I.kIn hl) (pmL_vals rz pm) h) fun r s' hq => ?_)
  cases r with
  | error e => exact T e s' (XE.of_call I (fun _ _ _ h => h) hq)
  | ok fl =>
    cases fl with
    | ret u => exact I.after hq
    | next => exact False.elim hq
    | brk => exact False.elim hq
    | cont => exact False.elim hq
theorem E_callK {md : List Bool} {ks : List Str} {pm : List Nat} {pn : Pos} (hF : FkK Γ x md ks pm) (hg : sc.names.lookup x = some .globalImplicit) (ha : SK Γ sc p kws ms) (hkl : kws.length = ks.length := by rfl) (hdb : (x == ("__debug__" : Str)) = false := by decide)
    (hall : ∀ X : Cx, (backToKw pos (keywordEach kws X.env)).all (·.1.isSome) = true := by intro _; rfl) (hks : ∀ X : Cx, (backToKw pos (keywordEach kws X.env)).filterMap (·.1) = ks := by intro _; rfl)
    (hpl : ∀ X : Cx, ((backTo pos (starEach [] X.env)).any (·.1) || (backToKw pos (keywordEach kws X.env)).any (·.1.isNone)) = false := by intro _; rfl) (hlen : ∀ env ds e, ms env = .ok ds e → ds.length = ks.length) : SE Γ sc false (.Call (.Name x pn) [] kws pos) (mCallK (Γ.C x) md pm ms) := fun X W G T => by
  obtain ⟨f, fd, ps, FO, hm, hk, hb, hlm⟩ := hF.ex
  refine ⟨fun pins s σ H Q I h => ?_⟩
  obtain ⟨b, env, F, j, h⟩ := h
  refine wpAny_Call_Name_kw (ld_glob I (gl_of hg G.sc) (by rw [G.mg]; exact hm) ?_ hdb)
  refine PySem.W.callWith_KW0 (h₀ := X.base) I.ok.mod.kin (by rw [G.K]; exact hk) (hall X) (thn ((ha X W G T).run pos pins s σ H (fun zs H1 => zs.length = ks.length ∧ spF Γ.g md (Γ.C x) (pmL pm zs) H1 Q (fun cls d H' => W cls d σ H')) I ⟨b, env, F, j, ?_⟩) fun ws s1 ⟨zs, H1, I1, r, hz, q⟩ => ⟨I1.kIn, ?_⟩) (hpl X)
  · unfold mCallK at h
    cases q : ms env with
    | bad => rw [q] at h; exact h.elim
    | exc c fs e => rw [q] at h; exact h
    | ok ds e =>
      rw [q] at h
      intro vs H1 l j1 _
      have hd := hlen env ds e q
      have lp : (pmL pm vs).length = md.length := by
        have := (pmL_perm (pm := pm) (xs := vs) (by rw [l, hd]; exact hF.pm)).length_eq
        rw [this, l, hd, hF.len]
      refine ⟨l.trans hd, back_sp (ds := pmL pm ds) (bs := noB md) (e := e) h (pmL_len l pm) lp (slots_no lp) ?_⟩
      rw [pmL_zip l]
      refine j1.perm (List.Perm.append_right _ (pmL_perm ?_).symm)
      rw [List.length_zip, l, Nat.min_self, hd]
      exact hF.pm
  · rw [hks X]
    exact run_fnKS (by rw [G.prog, G.w, G.K, G.mg, G.base]; exact FO) G.room (by rw [G.K]; exact hb) T I1 r (by rw [← r.length]; exact hz) q
theorem mCons_len {n : Nat} (h : ∀ env ds e, ms env = .ok ds e → ds.length = n) : ∀ env ds e, mCons ma ms env = .ok ds e → ds.length = n + 1 := fun env ds e q => by
  unfold mCons at q
  cases q1 : ma env with
  | bad => rw [q1] at q; cases q
  | exc c fs e => rw [q1] at q; cases q
  | ok d e1 =>
    rw [q1] at q
    have q' : ((ms e1).bind fun ds e => .ok (d :: ds) e) = .ok ds e := q
    cases q2 : ms e1 with
    | bad => rw [q2] at q'; cases q'
    | exc c fs e => rw [q2] at q'; cases q'
    | ok ds' e2 =>
      rw [q2] at q'
      injection q' with h1 _
      rw [← h1]
      exact congrArg Nat.succ (h _ _ _ q2)
theorem mNil_len : ∀ env ds e, mNil env = .ok ds e → ds.length = 0 := fun env ds e q => by
  injection q with h1 _
  rw [← h1]
  rfl
/-! ### a name that holds a def -/
/-- each of the names cs stands for a def that lends nothing -/
structure FkL (Γ : Cs) (cs : List Str) (md : List Bool) : Prop where
  of : ∀ x ∈ cs, Fk Γ x md ∧ ∀ f, Γ.mg x = some (.ref f) → Γ.g.glb x = some (.ref f)
def mCallL (i : Nat) (C : Orc) (cs : List Str) (md : List Bool) (bs : List (Option Nat)) (ms : M (List D)) : M D := fun env => match env[i]? with
  | some (some (.fn x)) => if x ∈ cs then mCall (C x) md bs ms env else .bad
  | _ => .bad
theorem E_callL (i : Nat) {cs : List Str} {md : List Bool} {pn : Pos} (hF : FkL Γ cs md) (hN : Γ.N[i]? = some x) (hv : Vis sc x) (ha : SB Γ sc p (e :: es) bs ms) (hl : bs.length = md.length := by rfl) (hd : (x == ("__debug__" : Str)) = false := by decide) (hcd : (x == ("__classdict__" : Str)) = false := by decide)
    (he : ∀ X : Cx, starEach (e :: es) X.env = (false, eval e X.env) :: starEach es X.env := by intro _; rfl) (hpl : ∀ X : Cx, (backTo pos (starEach es X.env)).any (·.1) = false := by intro _; rfl) : SE Γ sc false (.Call (.Name x pn) (e :: es) [] pos) (mCallL i Γ.C cs md bs ms) := fun X W G T => by
  refine ⟨fun pins s σ H Q I h => ?_⟩
  obtain ⟨b, env, F, j, h⟩ := h
  unfold mCallL at h
  split at h
  · rename_i y e0
    by_cases hy : y ∈ cs
    · rw [if_pos hy] at h
      obtain ⟨⟨f, fd, ps, FO, hm, hk, hb, hlm⟩, hg⟩ := (hF.of y hy)
      have hgf := hg f hm
      obtain ⟨v, h1, w⟩ := j.vw e0
      have ev : v = .ref f := by
        cases w with
        | fn hh =>
          rw [hgf] at hh
          exact (Option.some.inj hh).symm
      subst ev
      refine wpAny_Call_Name_kw (thn ((pe_var (pos := pn) (i := i) (by rw [G.N]; exact hN) (by rw [G.sc]; exact hv) hd hcd).run pins s σ H (fun v H1 => v = .ref f ∧ H1 = H) I ⟨.ref f, h1, rfl, rfl⟩) fun u s1 ⟨v, H1, I1, r1, q1⟩ => ?_)
      obtain ⟨rfl, rfl⟩ := q1
      cases r1
      refine PySem.W.callWith_K (h₀ := X.base) I.ok.mod.kin (by rw [G.K]; exact hk) (thn ((ha X W G T).run pos pins s1 σ _ _ I1 (rd_call (fun vs s => s.len.trans hl) ⟨b, env, F, j, h⟩)) fun us s2 ⟨vs, H2, I2, r, q⟩ => ⟨I2.kIn, ?_⟩) (he X) (hpl X)
      exact run_fnS (by rw [G.prog, G.w, G.K, G.mg, G.base]; exact FO) G.room (by rw [G.K]; exact hb) T I2 r q
    · rw [if_neg hy] at h
      exact h.elim
  · exact h.elim
end
end TL
end

-- text TL26
section
set_option Elab.async false
set_option linter.all false
set_option maxRecDepth 100000
set_option maxHeartbeats 4000000
namespace TL
open PySem PySem.Spec PyProof.Rows L2

/-! ### a lambda made: all but the tables stays -/
theorem nt_mu {o : HO} (h : Mu o) : NT o := fun ps e => by subst e; exact h
section
variable {g : Glb} {b : Bs} {H H' : Hp} {σ : Sg} {env : En} {F : Prs}
theorem SJ.extN (x : LamX.ExtN H H') (t : LamX.Tabs g.T H') (j : SJ g b H σ env F) : SJ g b H' σ env F := by
  obtain ⟨ps, s, A, r, n, w⟩ := j
  refine ⟨ps, s, A, r.heap (fun a o _ nt h => x a o h nt) (fun a m => ?_), n, ⟨t, fun a o nn h => ⟨(w.lock a o nn h).1.elim (fun q => .inl (x a o q nn)) fun ⟨y, ob, q⟩ => .inr ⟨y, ob, x a _ q nt_frz⟩, (w.lock a o nn h).2⟩⟩⟩
  obtain ⟨o, h, mu⟩ := r.own a m
  rw [h]
  exact x a o h (nt_mu mu)
theorem SJ.tabs (j : SJ g b H σ env F) : LamX.Tabs g.T H := let ⟨_, _, _, _, _, w⟩ := j; w.tab
end
section
variable {X : Cx} {pins : List (Addr × Obj)} {σ : L2.St} {H : Hp} {s : Shared}
/-- x(), x the parameter that holds the lambda; what it wishes of an exception is told at the state where it is called -/
theorem pe_actS {CXg : CXT} {Eg : XK} {Ng : List Str} {qg : Str} {sg : Scope} {g f c' : Addr} {cdg pm ctv : Value} {params : Arguments} {body : Expr} {scope : Scope} {k i : Nat} {a : Str} {pn : List (Addr × Obj)} {xe : Value → Shared → Prop} {W : L2.WX} {tb : XK → TE} {p1 p2 : Pos}
    (I : Inv X pins σ H s) (L : LamX.LamS X.env.scope scope) (hf : s.heap.get? f = some (PySem.W.kla_obj "<lambda>" (X.env.qual ++ "<lambda>") params body scope (cloFrom X.env.cells scope.names []) pm c' ctv)) (hfn : H f = none) (hfr : f ∉ L2.frs X.stack)
    (hbind : bindArgs (PySem.W.kla_fn "<lambda>" (X.env.qual ++ "<lambda>") params body scope (cloFrom X.env.cells scope.names []) pm (.ref c') ctv) ⟨[], []⟩ = pure [])
    (tk : Takes ((cxOf CXg X.prog X.w X.K X.mg X.base Ng qg sg g cdg X.A X.stack s H Eg).tr pn xe) W) (hr : Room (k + 1) (X.A.deeper (envOfC qg sg s.heap.objs.size g cdg)))
    (hbody : ∀ (A : Around) (outer : List Env) (s : Shared) (H : Hp) (E : XK), Room k (A.deeper (LamX.lamEnv X scope s.heap.objs.size f c')) → PE (LamX.lamCx X A outer s H E scope f c') body (tb E))
    (hN : Ng[i]? = some a) (hv : Vis sg a) (hd : (a == ("__debug__" : Str)) = false := by decide) (hcd : (a == ("__classdict__" : Str)) = false := by decide) :
    PE ((cxOf CXg X.prog X.w X.K X.mg X.base Ng qg sg g cdg X.A X.stack s H Eg).tr pn xe) (.Call (.Name a p1) [] [] p2)
      (fun σZ HZ Q => σZ[i]? = some (some (.ref f)) ∧ HZ c' = some (LamX.CodeO c' (X.env.qual ++ "<lambda>")) ∧ tb (fun cls d H' => W cls d σZ H') σ HZ Q) := by
  refine ⟨fun pinsZ sZ σZ HZ Q IZ h => ?_⟩
  obtain ⟨hs, hc, ht⟩ := h
  refine wpAny_Call_Name_kw (thn ((pe_var (pos := p1) (i := i) hN hv hd hcd).run pinsZ sZ σZ HZ (fun v H1 => v = .ref f ∧ H1 = HZ) IZ ⟨.ref f, hs, rfl, rfl⟩) fun u s1 ⟨v, H1, I1, r1, q1⟩ => ?_)
  obtain ⟨ev, eH⟩ := q1
  subst ev
  rw [eH] at I1
  obtain rfl : u = Value.ref f := r1
  have of1 : s1.heap.get? f = some (PySem.W.kla_obj "<lambda>" (X.env.qual ++ "<lambda>") params body scope (cloFrom X.env.cells scope.names []) pm c' ctv) := I1.base.keep f _ hf hfn hfr (fun z => nomatch (show f ∈ ([] : List Addr) from z))
  refine PySem.W.callWith_F0 ⟨_, _, _, _, of1⟩ ?_
  have un : Un (L2.frs X.stack) [] H HZ s.heap s1.heap := I1.base
  obtain ⟨⟨oc, vs, t, hoc, hdc, hvc⟩, _, _⟩ := I1.hok c' _ hc
  have rc : codeAny (model X.prog X.w) (X.A.deeper (envOfC qg sg s.heap.objs.size g cdg)) (.call (.ref f) ⟨[], []⟩) (L2.CR (L2.CX X.prog X.w) (envOfC qg sg s.heap.objs.size g cdg :: X.stack) X.prog X.w HZ s1 Q (fun cls d H' => W cls d σZ H')) s1 := by
    refine PySem.W.kla_callFunE hr.depth of1 rfl L.co L.gen rfl ⟨c', oc, vs, t, rfl, hoc, hdc, hvc⟩ ?_
    rw [hbind]
    refine wpAny_pure (wpAny_newFunctionEnv (fun y hy => (L.own y hy).2) (fun y hy => absurd hy (by simp)) (fun h₁ hns hsb => ⟨I1.nolimit.fresh _ hsb, ?_⟩) L.kind)
    show codeAny _ _ (.expr body (LamX.lamEnv X scope s1.heap.objs.size f c')) _ _
    have kp : ∀ b o, s1.heap.get? b = some o → h₁.get? b = some o := fun b o e => hsb.extBut b o (Nat.ne_of_lt (Heap.lt_size e)) (Heap.get?_push_of_some _ e)
    have J : Inv (LamX.lamCx X (X.A.deeper (envOfC qg sg s.heap.objs.size g cdg)) (envOfC qg sg s.heap.objs.size g cdg :: X.stack) s1 HZ (fun cls d H' => W cls d σZ H') scope f c') [] σ HZ { s1 with heap := h₁, toks := s1.toks + ([] : List (Str × Value)).length } :=
      LamX.lam_start2 I L I1.env0 hr.hd un hns kp
    exact PySem.W.kla_codeExpr (wpAny_mono ((hbody _ _ s1 HZ _ (hr.deeper _)).run [] _ _ HZ Q J ht) (fun v s' ⟨w', H', J', rv, q⟩ => ⟨w', H', J'.os, J'.bare, J'.base, J'.hok, rv, q⟩) fun e s' hq => hq)
  refine wpAny_call (codeAny_mono rc fun r s' hq => ?_)
  cases r with
  | error e => exact tk e s' (XE.of_call I1 (fun _ _ _ h => h) hq)
  | ok fl =>
    cases fl with
    | ret u => exact I1.after hq
    | next => exact False.elim hq
    | brk => exact False.elim hq
    | cont => exact False.elim hq
end
end TL
end

-- text TL27
section
set_option Elab.async false
set_option linter.all false
set_option maxRecDepth 100000
set_option maxHeartbeats 4000000
namespace TL
open PySem PySem.Spec PyProof.Rows L2

/-! ### told(lambda: e): try, and an except clause for each error of the text -/
abbrev Cl3 := List (Str × Str × Str)
/-- what the clauses make of it: c's own, its tag, its field -/
def toldR (cl : Cl3) : Rs D → Rs D
  | .ok d e => .ok (.tup [.str "told", d]) e
  | .exc c fs e => match cl.find? (fun x => decide (x.1 = c)), fs with
    | some (_, tag, fld), [(f, d)] => if f = fld then .ok (.tup [.str "bad", .str tag, d]) e else .bad
    | _, _ => .bad
  | .bad => .bad
def mTold (cl : Cl3) (m : M D) : M D := fun env => toldR cl (m env)
inductive THds : List ExceptHandler → Cl3 → Prop
  | nil : THds [] []
  | cons {c tag fld : Str} {k1 k2 k3 : Nat} {p1 p2 p3 p4 p5 p6 p7 p8 p9 : Pos} {hds : List ExceptHandler} {cl : Cl3} (r : THds hds cl) :
    THds (.ExceptHandler (some (.Name c p1)) (some "e") [.Assign [.Name "found" p2] (.Tuple [.Constant (.str "bad") k1 p3, .Constant (.str tag) k2 p4, .Attribute (.Name "e" p5) fld p6] k3 p7) p8] p9 :: hds) ((c, tag, fld) :: cl)
/-- what the written part says of the clauses' classes -/
structure ClsF (Γ : Cs) (sg : Scope) (cl : Cl3) : Prop where
  one : ∀ x ∈ cl, ∃ C, Γ.mg x.1 = some (.ref C) ∧ Γ.g.cls x.1 = some C ∧ XfC Γ.g.K C ∧ PySem.W.findIn Γ.g.K (.ref C) x.2.2 = some none ∧ sg.names.lookup x.1 = some .globalImplicit ∧ (x.1 == ("__debug__" : Str)) = false
  exm : ∀ x ∈ cl, ∀ y ∈ cl, ∀ C C', Γ.g.cls x.1 = some C → Γ.g.cls y.1 = some C' → PySem.W.exmOne Γ.g.K (.ref C) (.ref C') = some (decide (x.1 = y.1))
abbrev Nt : List Str := ["ask", "found", "e"]
/-- the names of the def that gets the lambda -/
structure TSc (sg : Scope) : Prop where
  ask : Vis sg "ask"
  found : sg.names.lookup ("found" : Str) = some NameKind.local
  e : sg.names.lookup ("e" : Str) = some NameKind.local
def tCl (C : Addr) (tag fld : Str) : Addr → Value → Option Addr → TS := fun a cls d => tAsg (tTup (tCons (tC (.str "bad")) (tCons (tC (.str tag)) (tCons (tXf a cls d C fld (tVar 2)) tNil)))) (gName 1)
def clsOf (g : Glb) (cl : Cl3) : Clauses := cl.map fun x => (.ref ((g.cls x.1).getD 0), tCl ((g.cls x.1).getD 0) x.2.1 x.2.2)
section
variable {Γ : Cs} {X : Cx} {sg : Scope} {s : Shared} {H : Hp} {g f c' : Addr} {cdg : Value} {x : Str}
abbrev tcx (X : Cx) (x : Str) (sg : Scope) (g : Addr) (cdg : Value) (s : Shared) (H : Hp) : Cx := cxOf C8.CX0 X.prog X.w X.K X.mg X.base Nt x sg g cdg X.A X.stack s H C8.E0
theorem told_cls (hK : X.K = Γ.g.K) (hmg : X.mg = Γ.mg) (T : TSc sg) : ∀ {hds : List ExceptHandler} {cl : Cl3}, THds hds cl → ClsF Γ sg cl → ClsOk (tcx X x sg g cdg s H).nox "e" hds (clsOf Γ.g cl)
  | _, _, .nil, _ => .nil
  | _, _, @THds.cons c tag fld _ _ _ _ _ _ _ _ _ _ _ _ hds cl r, F => by
    obtain ⟨C, h1, h2, h3, h4, h5, h6⟩ := F.one (c, tag, fld) List.mem_cons_self
    have e : clsOf Γ.g ((c, tag, fld) :: cl) = (.ref C, tCl C tag fld) :: clsOf Γ.g cl := by
      unfold clsOf
      rw [List.map_cons]
      show (Value.ref ((Γ.g.cls c).getD 0), tCl ((Γ.g.cls c).getD 0) tag fld) :: _ = _
      rw [show Γ.g.cls c = some C from h2]
      rfl
    rw [e]
    refine .cons ⟨h5, h6, .inl (show X.mg c = some (.ref C) by rw [hmg]; exact h1)⟩ (fun a oe cls d pn hz hd => ?_) (told_cls hK hmg T r ⟨fun y m => F.one y (List.mem_cons_of_mem _ m), fun y m z m' => F.exm y (List.mem_cons_of_mem _ m) z (List.mem_cons_of_mem _ m')⟩)
    exact pss_one (ps_set (i := 1) (show Nt.Nodup by decide) rfl (.inl T.found) (pe_tup (pa_cons pe_str (pa_cons pe_str (pa_cons (pe_xf (X := (tcx X x sg g cdg s H).nox) (by show XfC X.K C; rw [hK]; exact h3) (by show PySem.W.findIn X.K (.ref C) fld = _; rw [hK]; exact h4) hz hd (pe_var (i := 2) rfl (.inl T.e))) pa_nil)))))
theorem told_rd {W : L2.WX} {b : Bs} {env : En} {F : Prs} {σ : Sg} {Q : VK} {cl : Cl3} {m : M D} {D0 : Ends} {σt : L2.St} (Fc : ClsF Γ sg cl) (ht : σt.length = 3) (hD : ∀ (σ' : L2.St) p H', σ'[1]? = some (some (V.ref p)) → Q (.ref p) H' → D0.nx σ' H')
    (h : PoE Γ.g b false W σ H F Q (mTold cl m env)) : PoE Γ.g b false (fun c d _ H' => wCls Γ.g.K 2 (fun _ _ _ _ => False) D0 (clsOf Γ.g cl) c d σt H') σ H F (fun v H1 => 2 ≤ sizeLine ∧ ∀ p, H1 p = none → D0.nx (σt.set 1 (some (.ref p))) (upd H1 p (.tup [.str "told", v]))) (m env) := by
  unfold mTold toldR at h
  cases q : m env with
  | bad => rw [q] at h; exact h
  | ok d e =>
    rw [q] at h
    intro v H1 j1 _
    refine ⟨by decide, fun p hp => hD _ p _ (List.getElem?_set_self (by omega)) (h (.ref p) _ ?_ fun z => by cases z)⟩
    exact SJ.newTup (vs := [.str "told", v]) (ds := [.str "told", d]) hp rfl (j1.add fun _ => .str _)
  | exc c fs e =>
    rw [q] at h
    dsimp only at h
    cases qf : cl.find? (fun x => decide (x.1 = c)) with
    | none => rw [qf] at h; exact h.elim
    | some y =>
      obtain ⟨c0, tag, fld⟩ := y
      rw [qf] at h
      rcases fs with _ | ⟨⟨fl, d⟩, _ | ⟨y2, r2⟩⟩
      · exact h.elim
      · replace h : PoE Γ.g b false W σ H F Q (if fl = fld then .ok (.tup [.str "bad", .str tag, d]) e else .bad) := h
        by_cases ef : fl = fld
        · rw [if_pos ef] at h
          subst ef
          intro C dd H' vfs h1 h2 h3 j
          obtain ⟨v, rfl⟩ : ∃ v, vfs = [(fl, v)] := by
            match vfs, h3 with
            | [(k, v)], h3 =>
              have : k = fl := (List.cons.inj h3).1
              exact ⟨v, by rw [this]⟩
          have ec : c0 = c := by
            have := List.find?_some qf
            exact of_decide_eq_true this
          subst ec
          have hmem := List.mem_of_find?_eq_some qf
          -- along the clauses
          have go : ∀ cl' : Cl3, (∀ y ∈ cl', y ∈ cl) → cl'.find? (fun x => decide (x.1 = c0)) = some (c0, tag, fl) → wCls Γ.g.K 2 (fun _ _ _ _ => False) D0 (clsOf Γ.g cl') (.ref C) (some dd) σt H' := fun cl' => by
            induction cl' with
            | nil => intro _ z; cases z
            | cons y cl' ih =>
              intro hs hf
              obtain ⟨cy, ty, fy⟩ := y
              obtain ⟨Cy, g1, g2, _⟩ := Fc.one _ (hs (cy, ty, fy) List.mem_cons_self)
              have hx := Fc.exm _ hmem _ (hs (cy, ty, fy) List.mem_cons_self) C Cy h1 g2
              have ey : clsOf Γ.g ((cy, ty, fy) :: cl') = (.ref Cy, tCl Cy ty fy) :: clsOf Γ.g cl' := by
                unfold clsOf
                rw [List.map_cons]
                show (Value.ref ((Γ.g.cls cy).getD 0), tCl ((Γ.g.cls cy).getD 0) ty fy) :: _ = _
                rw [show Γ.g.cls cy = some Cy from g2]
                rfl
              rw [ey]
              refine ⟨_, hx, fun hb a ha => ?_, fun hb => ?_⟩
              · have e1 : c0 = cy := of_decide_eq_true hb
                subst e1
                have e2 : (c0, ty, fy) = (c0, tag, fl) := by
                  rw [List.find?_cons_of_pos (by simp)] at hf
                  exact Option.some.inj hf
                cases e2
                have eC : Cy = C := Option.some.inj (g2.symm.trans h1)
                subst eC
                refine ⟨.ref a, List.getElem?_set_self (by omega), rfl, rfl, dd, [(fl, v)], v, rfl, h2, ?_, by show 3 ≤ sizeLine; decide, fun p hp => ?_⟩
                · simp [List.lookup]
                · refine hD _ p _ ?_ (h (.ref p) _ (SJ.newTup (vs := [.str "bad", .str tag, v]) (ds := [.str "bad", .str tag, d]) hp rfl ?_) fun z => by cases z)
                  · rw [List.getElem?_set_ne (by decide), List.getElem?_set_self (by rw [List.length_set]; omega)]
                  · exact SJ.add (fun _ => .str _) (SJ.add (fun _ => .str _) j)
              · have e1 : ¬ c0 = cy := of_decide_eq_false hb
                refine ih (fun z mz => hs z (List.mem_cons_of_mem _ mz)) ?_
                rw [List.find?_cons_of_neg (by simp; exact fun z => e1 z.symm)] at hf
                exact hf
          exact go cl (fun _ m => m) qf
        · rw [if_neg ef] at h
          exact h.elim
      · exact h.elim
end
end TL
end

-- text TL28
section
set_option Elab.async false
set_option linter.all false
set_option maxRecDepth 100000
set_option maxHeartbeats 4000000
namespace TL
open PySem PySem.Spec PyProof.Rows L2

/-- the body of the def that gets the lambda -/
inductive TBody : List Stmt → Cl3 → Prop
  | mk {h₀ : ExceptHandler} {hds : List ExceptHandler} {cl : Cl3} {k1 k2 : Nat} {p1 p2 p3 p4 p5 p6 p7 p8 p9 : Pos} (r : THds (h₀ :: hds) cl) :
    TBody [.Try [.Assign [.Name "found" p1] (.Tuple [.Constant (.str "told") k1 p2, .Call (.Name "ask" p3) [] [] p4] k2 p5) p6] (h₀ :: hds) [] [] p7, .Return (some (.Name "found" p8)) p9] cl
structure Told (Γ : Cs) (x : Str) (cl : Cl3) : Prop where
  ex : ∃ (g : Addr) (st : Stmt) (fd : FuncData), Γ.mg x = some (.ref g) ∧ PySem.W.keepIn Γ.g.K (.ref g) = true ∧ Fun Γ.g.K x x st g fd ∧ Binds Γ.g.K fd ["ask"] [] ∧ FnScope Nt ["ask"] (defScope st) ∧ TSc (defScope st) ∧ ClsF Γ (defScope st) cl ∧ TBody (defBody st) cl
structure LamF (Γ : Cs) : Prop where
  ex : ∃ (c : Addr) (q : Str) (P : Addr), Γ.cd = some (c, q) ∧ LamX.TabB Γ.base Γ.mg c P ∧ (P, q ++ "<lambda>") ∈ Γ.g.T ∧ ∀ p ∈ Γ.g.T, p.1 = P → p.2 = q ++ "<lambda>"
theorem PoE.noH {g : Glb} {b : Bs} {W : L2.WX} {σ : Sg} {H H1 : Hp} {F : Prs} {Q : VK} {r : Rs D} (h : PoE g b false W σ H F Q r) : PoE g b false W σ H1 F Q r := by
  cases r with
  | ok d e => exact fun v H' j _ => h v H' j fun z => by cases z
  | exc c fs e => exact h
  | bad => exact h
theorem PoE.unp {g : Glb} {b : Bs} {p : Bool} {W : L2.WX} {σ : Sg} {H : Hp} {F : Prs} {Q : VK} {r : Rs D} (h : PoE g b false W σ H F Q r) : PoE g b p W σ H F Q r := by
  cases r with
  | ok d e => exact fun v H' j _ => h v H' j fun z => by cases z
  | exc c fs e => exact h
  | bad => exact h
/-- x(lambda: e), x the def that tells -/
theorem E_told {Γ : Cs} {sc scope : Scope} {p : Bool} {x : Str} {cl : Cl3} {k' : Nat} {C2 : Orc} {params : Arguments} {body : Expr} {m : M D} {pn lpos pos : Pos} (T0 : Told Γ x cl) (LF : LamF Γ) (hk' : k' + 2 ≤ Γ.k) (hg : sc.names.lookup x = some .globalImplicit)
    (hL : LamX.lamSB sc scope = true) (hm : SE { Γ with k := k', C := C2, cd := none } scope p body m) (hdef : ∀ X : Cx, defaultsOf params X.env = ([], []) := by intro _; rfl)
    (hbind : ∀ (q : Str) (cl : List (Str × Addr)) (pm cv ctv : Value), bindArgs (PySem.W.kla_fn "<lambda>" q params body scope cl pm cv ctv) ⟨[], []⟩ = pure [] := by intros; rfl) (hdb : (x == ("__debug__" : Str)) = false := by decide) :
    SE Γ sc false (.Call (.Name x pn) [.Lambda params body scope lpos] [] pos) (mTold cl m) := fun X W G T => by
  obtain ⟨g, st, fd, t1, t2, t3, t4, t5, t6, t7, t8⟩ := T0.ex
  obtain ⟨c, q, P, l1, l2, l3, l4⟩ := LF.ex
  obtain ⟨hcode, hqual⟩ := G.code c q l1
  obtain ⟨oc, od, kV, doc, pm, an, cdv, ct, osl, efd, lk, hcd⟩ := t3.ex
  have L : LamX.LamS X.env.scope scope := by rw [G.sc]; exact LamX.lamS_by hL
  have hr : Room (k' + 2) X.A := G.room.mono hk'
  refine ⟨fun pins s σ H Q I h => ?_⟩
  obtain ⟨b, env, F, j, h⟩ := h
  refine wpAny_Call_Name_kw (ld_glob I (gl_of hg G.sc) (by rw [G.mg]; exact t1) ?_ hdb)
  refine PySem.W.callWith_K (h₀ := X.base) I.ok.mod.kin (by rw [G.K]; exact t2) ?_ (by rfl) (by rfl)
  show wpAny _ _ (spliced ((false, eval (.Lambda params body scope lpos) X.env) :: backTo pos (starEach [] X.env))) _ _ s
  refine Calls.spliced_cons (LamX.lam_make2 (T := Γ.g.T) (c := c) (P := P) I (by rw [G.base, G.mg]; exact l2) hcode (by rw [hqual]; exact l3) (by rw [hqual]; exact l4) j.tabs (hdef X) (L.has I.ok) fun f c' pm' ctv H1 s' I1 eN T1 hf hfn hfr hco => ?_)
  refine Calls.spliced_nil ⟨I1.kIn, ?_⟩
  have j1 : SJ Γ.g b H1 σ env F := j.extN eN T1
  have rc : codeAny (model X.prog X.w) X.A (.call (.ref g) ⟨[.ref f], []⟩) (L2.CR C8.CX0 X.stack X.prog X.w H1 s' Q C8.E0) s' := by
    subst efd
    have hkin : Γ.g.K.In s'.heap := by rw [← G.K]; exact I1.kIn
    refine LamX.run_ofS (K := X.K) (mg := X.mg) (base := X.base) (N := Nt) (ps := ["ask"]) (us := [.ref f]) (vs := [.ref f]) (by rw [G.K]; exact lk) (by rw [G.K]; exact hcd) t5 hr I1.env0 (t4 s' [.ref f] hkin rfl) (.cons rfl .nil) rfl fun hr' => ?_
    have act : ∀ (W' : L2.WX) (pn' : List (Addr × Obj)) (xe : Value → Shared → Prop) (p1 p2 : Pos), Takes ((tcx X x (defScope st) g cdv s' H1).tr pn' xe) W' →
        PE ((tcx X x (defScope st) g cdv s' H1).tr pn' xe) (.Call (.Name "ask" p1) [] [] p2) (fun σZ HZ Q => σZ[0]? = some (some (.ref f)) ∧ HZ c' = some (LamX.CodeO c' (X.env.qual ++ "<lambda>")) ∧ rdE Γ.g p (fun c d _ H' => W' c d σZ H') m σ HZ Q) := fun W' pn' xe p1 p2 tk =>
      pe_actS (X := X) (k := k') (i := 0) (tb := fun E => rdE Γ.g p (fun c d _ H' => E c d H') m) I1 L hf hfn hfr (hbind _ _ _ _ _) tk hr' (fun A outer s H E hr2 =>
        hm _ (fun cls d _ H' => E cls d H') ⟨G.prog, G.w, G.K, G.mg, G.base, G.N, G.nd, rfl, rfl, hr2, PassesOwn.leaving, fun c q z => by cases z⟩ (takes_of rfl rfl rfl rfl)) rfl t6.ask
    generalize hbg : defBody st = bg at t8 ⊢
    cases t8 with
    | @mk h₀ hds cl _ _ p1 p2 p3 p4 p5 p6 p7 p8 p9 r =>
      refine ⟨_, PSs.nox (pss_cons (ps_try_cls (X := (tcx X x (defScope st) g cdv s' H1).nox) (i := 2) (n := "e") (l := clsOf Γ.g cl) (Wout := fun _ _ _ _ => False)
        (tb := fun W' => tAsg (tTup (tCons (tC (.str "told")) (tCons (fun σZ HZ Q => σZ[0]? = some (some (.ref f)) ∧ HZ c' = some (LamX.CodeO c' (X.env.qual ++ "<lambda>")) ∧ rdE Γ.g p (fun c d _ H' => W' c d σZ H') m σ HZ Q) tNil))) (gName 1))
        rfl rfl (show Nt.Nodup by decide) rfl t6.e takes0 (fun W' pn' xe tk _ => ?_) (told_cls (Γ := Γ) G.K G.mg t6 r t7)) (pss_one (ps_ret (pe_var (i := 1) rfl (.inl t6.found))))), ?_⟩
      · exact pss_one (ps_set (i := 1) (show Nt.Nodup by decide) rfl (.inl t6.found) (pe_tup (pa_cons pe_str (pa_cons (act W' pn' xe p3 p4 tk) pa_nil))))
      · refine ⟨rfl, hco, b, env, F, j1, PoE.unp ?_⟩
        have := told_rd (D0 := { nx := fun σ' H' => ∃ v, σ'[1]? = some (some v) ∧ Q v H', rt := Q }) (σt := L2.start Nt [.ref f]) t7 rfl (fun σ' p H' e q => ⟨_, e, q⟩) (PoE.noH (H1 := H1) h)
        rw [← G.K] at this
        exact this
  refine wpAny_call (codeAny_mono rc fun r s2 hq => ?_)
  cases r with
  | error e => exact (show False from hq).elim
  | ok fl =>
    cases fl with
    | ret u => exact I1.after hq
    | next => exact False.elim hq
    | brk => exact False.elim hq
    | cont => exact False.elim hq
end TL
namespace TL
open PySem PySem.Spec PyProof.Rows L2
theorem ClsF.N {Γ : Cs} {sg : Scope} {cl : Cl3} {N : List Str} (h : ClsF Γ sg cl) : ClsF { Γ with N := N } sg cl := ⟨h.one, h.exm⟩
theorem Told.N {Γ : Cs} {x : Str} {cl : Cl3} {N : List Str} (h : Told Γ x cl) : Told { Γ with N := N } x cl := by
  obtain ⟨g, st, fd, h1, h2, h3, h4, h5, h6, h7, h8⟩ := h.ex
  exact ⟨⟨g, st, fd, h1, h2, h3, h4, h5, h6, h7.N, h8⟩⟩
theorem LamF.N {Γ : Cs} {N : List Str} (h : LamF Γ) : LamF { Γ with N := N } := ⟨h.ex⟩
theorem FkL.N {Γ : Cs} {cs : List Str} {md : List Bool} {N : List Str} (h : FkL Γ cs md) : FkL { Γ with N := N } cs md := ⟨fun x m => ⟨⟨(h.of x m).1.ex⟩, (h.of x m).2⟩⟩
theorem FkK.N {Γ : Cs} {x : Str} {md : List Bool} {ks : List Str} {pm : List Nat} {N : List Str} (h : FkK Γ x md ks pm) : FkK { Γ with N := N } x md ks pm := ⟨h.ex, h.pm, h.len⟩
theorem Fk.N {Γ : Cs} {x : Str} {md : List Bool} {N : List Str} (h : Fk Γ x md) : Fk { Γ with N := N } x md := ⟨h.ex⟩
theorem Fk.lam {Γ : Cs} {x : Str} {md : List Bool} {k : Nat} {C2 : Orc} {N : List Str} (h : Fk { Γ with k := k, C := C2 } x md) : Fk { { Γ with N := N } with k := k, C := C2, cd := none } x md := ⟨h.ex⟩
theorem FkL.lam {Γ : Cs} {cs : List Str} {md : List Bool} {k : Nat} {C2 : Orc} {N : List Str} (h : FkL { Γ with k := k, C := C2 } cs md) : FkL { { Γ with N := N } with k := k, C := C2, cd := none } cs md := ⟨fun x m => ⟨⟨(h.of x m).1.ex⟩, (h.of x m).2⟩⟩
theorem V_neg {Γ : Cs} {sc : Scope} {p : Bool} {a : Expr} {ma : M D} {pos : Pos} (ha : SV Γ sc p a ma) : SE Γ sc p (.UnaryOp .USub a pos) (mV1 negD ma) := fun X W G T =>
  PE.imp (pe_un un_neg (ha X W G T)) fun σ H Q ⟨b, env, F, j, h⟩ => ⟨b, env, F, j, PoV.into (PoE Γ.g b p W σ H F Q) (fun _ _ _ h => h) (fun h => h) h fun d e v H' h j w x => by
    cases q : negD d with
    | none => rw [q] at h; exact h.elim
    | some z =>
      rw [q] at h
      exact un_negD (g := Γ.g) H' v d z Q w q fun u ru => h u H' (j.add (ru H')) x⟩
end TL
end

-- text TL29
section
set_option Elab.async false
set_option linter.all false
set_option maxRecDepth 100000
set_option maxHeartbeats 4000000
namespace TL
open PySem PySem.Spec PyProof.Rows L2

/-! ### facts of the head, by names -/
theorem fun_ofD {K : PySem.W.Frag} {x qual : Str} {st : Stmt} {f : Addr} {fd : FuncData} (F : FunD K x qual (defArgs st) (defBody st) (defScope st) [] [] f fd) : L2.Fun K x qual st f fd := by
  obtain ⟨oc, od, dV, kV, doc, pm, an, cdv, ct, osl, e, l, c, hd, _⟩ := F.ex
  rcases hd with ⟨_, e2⟩ | ⟨e2, _⟩
  · subst e2
    exact ⟨⟨oc, od, kV, doc, pm, an, cdv, ct, osl, e, l, c⟩, F.kp⟩
  · exact absurd rfl e2
def fnScB (N P : List Str) (sc : Scope) : Bool :=
  (match sc.kind with | .function => true | _ => false) && !sc.isCoroutine && !sc.isGenerator && decide N.Nodup && decide (N.take P.length = P) && (P.all fun x => locB sc x) && (sc.names.all fun y => !decide (y.2 = .free))
theorem fnSc_by {N P : List Str} {sc : Scope} (h : fnScB N P sc = true) : FnScope N P sc := by
  unfold fnScB at h
  simp only [Bool.and_eq_true, List.all_eq_true, decide_eq_true_eq, Bool.not_eq_true', decide_eq_false_iff_not] at h
  obtain ⟨⟨⟨⟨⟨⟨h1, h2⟩, h3⟩, h4⟩, h5⟩, h6⟩, h7⟩ := h
  refine ⟨?_, h2, h3, h4, h5, fun x hx => loc_by (h6 x hx), h7⟩
  split at h1
  · assumption
  · cases h1
/-- a def of nothing promised -/
theorem fk_zero {Γ : Cs} {x : Str} {md : List Bool} {f : Addr} {fd : FuncData} {ps : List Str} (hC : Γ.C x = fun _ => .bad) (hm : Γ.mg x = some (.ref f)) (hk : PySem.W.keepIn Γ.g.K (.ref f) = true) (hb : Binds Γ.g.K fd ps []) (hl : ps.length = md.length) : Fk Γ x md :=
  ⟨f, fd, ps, ⟨fun vs H Q E h => h.1.trans hl.symm, fun A outer s H args us vs Q E _ _ _ _ h => by
    obtain ⟨_, b, ds, qs, _, _, h⟩ := h
    rw [hC] at h
    exact h.elim⟩, hm, hk, hb, hl⟩
/-! constants -/
theorem GV.str {Γ : Cs} {x z : Str} (h : ∃ t, Γ.mg x = some (.str z t)) : GV Γ x (.str z) := by
  obtain ⟨t, h⟩ := h
  exact ⟨.str z, _, h, ⟨t, rfl⟩, fun H Z => .str z⟩
theorem GV.int {Γ : Cs} {x : Str} {z : Int} (h : ∃ t, Γ.mg x = some (.int z t)) : GV Γ x (.int z) := by
  obtain ⟨t, h⟩ := h
  exact ⟨.int z, _, h, ⟨t, rfl⟩, fun H Z => .int z⟩
theorem GV.fn {Γ : Cs} {x : Str} {a : Addr} (h : Γ.mg x = some (.ref a)) (hg : Γ.g.glb x = some (.ref a)) : GV Γ x (.fn x) := ⟨.ref a, _, h, rfl, fun H Z => .fn hg⟩
theorem GV.tup {Γ : Cs} {x : Str} {ss : List Str} (h : Γ.mg x = some (.ref (He.ga Γ.g.K x))) (hb : He.tupB Γ.g.K x (ss.map He.Dv.str) = true) : GV Γ x (.tup (ss.map .str)) := by
  have hs := He.tupB_ok hb (fun _ => none)
  rcases hs with (hs | ⟨o, hs⟩) | hs
  · cases hs
  · cases hs
  · refine ⟨.ref _, _, h, rfl, fun H Z => .tupK hs ?_⟩
    rw [List.map_map]
    exact repL_strs ss
/-! dicts -/
def valB (K : PySem.W.Frag) (x : Str) (kvs : List (Str × D)) : Bool := kvs.all fun q => isAt q.2 && (match PySem.W.nsIn K (He.ga K x) q.1 with
  | some (some u) => He.relB (vOf q.2) u
  | _ => false)
theorem dicW_es {K : PySem.W.Frag} {w : World} {a : Addr} {ks : List Str} (h : He.dicW K a = some (He.keysIn w.params ks)) : ∃ es n, KDict K w a es n ∧ es.toList.map He.keyOf = He.keysIn w.params ks := by
  obtain ⟨es, n, D⟩ := He.dicW_ok h
  refine ⟨es, n, D, ?_⟩
  unfold He.dicW at h
  rw [D.at_] at h
  have h1 : (match decide (("dict" : String) = "dict") && ((#[] : Array (Option Value)).isEmpty && !(a == sysModules)) with
    | true => some (es.toList.map He.keyOf)
    | false => none) = some (He.keysIn w.params ks) := h
  rw [D.low] at h1
  exact Option.some.inj h1
theorem nsIn_miss {K : PySem.W.Frag} {w : World} {a : Addr} {ks : List Str} {es : Array DictEntry} {n : Nat} (D : KDict K w a es n) (h : es.toList.map He.keyOf = He.keysIn w.params ks) {z : Str} (hz : z ∉ ks) : PySem.W.nsIn K a z = some none := by
  have key : ∀ e ∈ es.toList, ∃ k t, e.key = .str k t ∧ k ∈ ks := fun e m => by
    have m2 : He.keyOf e ∈ He.keysIn w.params ks := by rw [← h]; exact List.mem_map_of_mem m
    obtain ⟨k, hk, e1⟩ := List.mem_map.mp m2
    unfold He.keyOf at e1
    split at e1
    · rename_i x t q
      have := (Prod.mk.inj (Option.some.inj e1)).1
      exact ⟨x, t, q, by rw [← this]; exact hk⟩
    · cases e1
  unfold PySem.W.nsIn
  rw [D.at_]
  have f1 : es.toList.find? (fun e => e.key.isStr z) = none := List.find?_eq_none.mpr fun e m => by
    obtain ⟨k, t, e1, e2⟩ := key e m
    rw [e1, PySem.W.isStr_of]
    intro q
    have : k = z := by
      have q' : (k == z) = true := q
      exact eq_of_beq q'
    exact hz (this ▸ e2)
  have f2 : es.toList.any (·.refKey) = false := List.any_eq_false.mpr fun e m => by
    obtain ⟨k, t, e1, e2⟩ := key e m
    unfold DictEntry.refKey
    rw [e1]
    simp
  show (match es.toList.find? (fun e => e.key.isStr z) with
      | some e => some (some e.val)
      | none => if es.toList.any (·.refKey) then none else some none) = some none
  rw [f1, f2]
  rfl
theorem look_mem {β : Type} {kvs : List (Str × β)} {z : Str} {t : β} (h : kvs.lookup z = some t) : (z, t) ∈ kvs := PySem.mem_of_lookup h
theorem look_none {β : Type} : ∀ {kvs : List (Str × β)} {z : Str}, kvs.lookup z = none → z ∉ kvs.map (·.1)
  | [], _, _ => List.not_mem_nil
  | (k, v) :: kvs, z, h => by
    by_cases q : (z == k) = true
    · simp [List.lookup, q] at h
    · have q' : (z == k) = false := by simpa using q
      have h' : kvs.lookup z = none := by simpa [List.lookup, q'] using h
      intro m
      rcases List.mem_cons.mp m with e | m
      · rw [e] at q
        exact q (beq_self_eq_true _)
      · exact look_none h' m
theorem wdct_by {Γ : Cs} {x : Str} {kvs : List (Str × D)} (hm : Γ.mg x = some (.ref (He.ga Γ.g.K x))) (hd : He.dicW Γ.g.K (He.ga Γ.g.K x) = some (He.keysIn Γ.w.params (kvs.map (·.1)))) (hv : valB Γ.g.K x kvs = true) : WDct Γ x kvs := by
  obtain ⟨es, n, D, hk⟩ := dicW_es hd
  refine ⟨_, es, n, hm, D, fun z => ?_⟩
  cases q : kvs.lookup z with
  | none => exact nsIn_miss D hk (look_none q)
  | some t =>
    obtain ⟨h1, h2⟩ := Bool.and_eq_true_iff.mp (List.all_eq_true.mp hv _ (look_mem q))
    refine ⟨h1, ?_⟩
    dsimp only at h2
    split at h2
    · rename_i u e
      exact ⟨u, e, He.relB_ok h2⟩
    · cases h2
/-! exceptions -/
def oexB (K : PySem.W.Frag) (C : Addr) : Bool := (match K.lookup C with
  | some ⟨.type "type", _, .cls cd, sl⟩ => (match cd.mro, sl.toList with
    | .ref C' :: bm, [_, _, _, _, some (.builtin n), _] => C' == C && n == "ValueError.__new__" && !cd.hasDel && cd.hasDict && PySem.HandSPX.refsVE bm
    | _, _ => false)
  | _ => false) && decide (PySem.W.findIn K (.ref C) "__setattr__" = some (some (.builtin "object.__setattr__"))) && decide (PySem.W.subIn K (.ref C) (.type "BaseException") = some true) && decide (PySem.W.typeIn K (.ref C) = some (.type "type")) && PySem.W.keepIn K (.ref C)
theorem oexB_ok {K : PySem.W.Frag} {C : Addr} (h : oexB K C = true) : OexC K C := by
  unfold oexB at h
  simp only [Bool.and_eq_true, decide_eq_true_eq] at h
  obtain ⟨⟨⟨⟨h1, h2⟩, h3⟩, h4⟩, h5⟩ := h
  refine ⟨?_, h2, h3, h4, h5⟩
  split at h1
  · rename_i dd cd sl ho
    split at h1
    · rename_i C' bm k0 k1 k2 k3 n k5 hm hs
      simp only [Bool.and_eq_true, beq_iff_eq, Bool.not_eq_true'] at h1
      obtain ⟨⟨⟨⟨rfl, rfl⟩, hdel⟩, hdct⟩, hbm⟩ := h1
      obtain ⟨nm, bs, mro, ns, qn, hd, sn, sub, ab, col, del⟩ := cd
      dsimp only at hm hdel hdct
      subst hm hdel hdct
      have hsl : sl = #[k0, k1, k2, k3, some (.builtin "ValueError.__new__"), k5] := by
        obtain ⟨l⟩ := sl
        simp only at hs
        rw [hs]
      subst hsl
      exact ⟨nm, qn, ns, bs, bm, sn, sub, ab, col, dd, k0, k1, k2, k3, k5, ho, hbm⟩
    · cases h1
  · cases h1
/-- what is looked at of an exception x with the field f: its class, its __init__ -/
def excB (K : PySem.W.Frag) (x f : Str) : Bool := oexB K (He.ga K x) && decide (PySem.W.findIn K (.ref (He.ga K x)) "__init__" = some (some (.ref (He.ma K (He.ga K x) "__init__")))) && decide (PySem.W.typeIn K (.ref (He.ma K (He.ga K x) "__init__")) = some (.type "function")) &&
  decide (PySem.W.findIn K (.ref (He.ga K x)) f = some none) && xfB K (He.ga K x)
structure ExcF (K : PySem.W.Frag) (x f : Str) : Prop where
  oex : OexC K (He.ga K x)
  ini : PySem.W.findIn K (.ref (He.ga K x)) "__init__" = some (some (.ref (He.ma K (He.ga K x) "__init__")))
  ty : PySem.W.typeIn K (.ref (He.ma K (He.ga K x) "__init__")) = some (.type "function")
  no : PySem.W.findIn K (.ref (He.ga K x)) f = some none
  xf : XfC K (He.ga K x)
theorem excB_ok {K : PySem.W.Frag} {x f : Str} (h : excB K x f = true) : ExcF K x f := by
  unfold excB at h
  simp only [Bool.and_eq_true, decide_eq_true_eq] at h
  obtain ⟨⟨⟨⟨h1, h2⟩, h3⟩, h4⟩, h5⟩ := h
  exact ⟨oexB_ok h1, h2, h3, h4, xfB_ok h5⟩
theorem exc1_by {Γ : Cs} {x f y q : Str} {st : Stmt} {fd : FuncData} {p1 p2 p3 pos : Pos} (E : ExcF Γ.g.K x f) (hm : Γ.mg x = some (.ref (He.ga Γ.g.K x))) (hc : Γ.g.cls x = some (He.ga Γ.g.K x)) (hk : 2 ≤ Γ.k) (F : L2.Fun Γ.g.K "__init__" q st (He.ma Γ.g.K (He.ga Γ.g.K x) "__init__") fd) (hB : Binds Γ.g.K fd ["self", y] [])
    (S : FnScope ["self", y] ["self", y] (defScope st)) (hb : defBody st = [.Assign [.Attribute (.Name "self" p1) f p2] (.Name y p3) pos]) (v0 : Vis (defScope st) "self") (v1 : Vis (defScope st) y) (hd : (y == ("__debug__" : Str)) = false := by decide) (hcd : (y == ("__classdict__" : Str)) = false := by decide) : Exc1 Γ x f :=
  ⟨⟨_, _, fd, y, hm, hc, E.oex, E.ini, E.ty, init_ok F S hb v0 v1 hd hcd E.oex E.no, hB⟩, hk⟩
end TL
end

-- text TM1
section
set_option Elab.async false
set_option linter.all false
set_option maxRecDepth 100000
set_option maxHeartbeats 4000000
/-! exceptions as values: made by position or by name -/
namespace PySem
namespace TLX
open HandSPX Builtin Builtin.ObjectAttr
abbrev Kw := List (Str × Value)
section
variable {M : Model} {A : Around} {E : Value → Shared → Prop} {h : Heap} {g : Array GenState} {d : Drawn} {t : Nat} {os : OsState} {kw : Kw}
variable {nm q : Str} {C N : Addr} {bs bm bmB : List Value} {hdct : Bool} {sn : List Str} {sub : List Value} {ab : Bool} {col : Option Bool} {dd : Option Addr} {k0 k1 k2 k3 k5 : Option Value} {B newId initId : String}
theorem check_new_k (F : ExcBaseFacts B newId initId bmB) (hT : ∀ X : String, bm.contains (.type X) = bmB.contains (.type X)) {rest : List Value} {Q : Unit → Shared → Prop}
    (hC : h.get? C = some (excClassObj nm q C N bs bm hdct sn sub ab col dd k0 k1 k2 k3 k5 newId)) (hq : Q () ⟨h, g, d, t, os⟩) : wpAny M A (checkBuiltinCall newId ⟨.ref C :: rest, kw⟩) Q E ⟨h, g, d, t, os⟩ := by
  have hcont : (Value.ref C :: bm).contains (.type B) = true := by rw [List.contains_cons, hT, F.hasB, Bool.or_true]
  have hstar := F.noStar
  simp only [checkBuiltinCall, F.newKind, F.newSplit, F.newRow]
  repeat (first | refine wpAny_loadPart_at hC ?_ | (refine wpAny_isSubtype_exc hC ?_; rw [hcont]) | refine wpAny_staticBase_exc hC ?_ | refine wpAny_madeBy_exc hC ?_ | simp only [bne_self_eq_false, Bool.false_eq_true, if_false] | wp_step)
  exact hq
theorem check_tc_k {rest : List Value} {Q : Unit → Shared → Prop} (hC : h.get? C = some (excClassObj nm q C N bs bm hdct sn sub ab col dd k0 k1 k2 k3 k5 newId)) (hq : Q () ⟨h, g, d, t, os⟩) :
    wpAny M A (checkBuiltinCall "type.__call__" ⟨.ref C :: rest, kw⟩) Q E ⟨h, g, d, t, os⟩ := by
  have f3 := tc_sub
  have hT : (⟨h, g, d, t, os⟩ : Shared).TypeIs (.ref C) "type" := ⟨_, hC, rfl⟩
  simp only [checkBuiltinCall, tc_kind, tc_split]
  repeat (any_goals (first | assumption | with_reducible refine wpAny_loadPart_at hC ?_ | with_reducible refine wpAny_onRaise ?_ | with_reducible refine wpAny_map ?_ | wp_step))
end
section
variable {prog : Program} {w : World} {A : Around} {E : Value → Shared → Prop} {R : Result → Shared → Prop} {h : Heap} {g : Array GenState} {d : Drawn} {t : Nat} {os : OsState} {kw : Kw}
variable {nm q : Str} {C N : Addr} {bs bm bmB : List Value} {hdct : Bool} {sn : List Str} {sub : List Value} {ab : Bool} {col : Option Bool} {dd : Option Addr} {k0 k1 k2 k3 k5 : Option Value} {B newId initId : String}
theorem new_k (F : ExcBaseFacts B newId initId bmB) (hT : ∀ X : String, bm.contains (.type X) = bmB.contains (.type X)) {rest : List Value}
    (hC : h.get? C = some (excClassObj nm q C N bs bm hdct sn sub ab col dd k0 k1 k2 k3 k5 newId))
    (hq : R (.ok (.ret (.ref (h.objs.size + 1)))) ⟨(h.push { cls := .type "tuple", data := .seq rest.toArray }).push
      { cls := .ref C, data := .fields #[.ref h.objs.size, .none, .none, .none, .bool false, .none] }, g, d, t, os⟩) (hrest : rest.length ≤ sizeLine) :
    codeAny (model prog w) A (.builtin newId ⟨.ref C :: rest, kw⟩) R ⟨h, g, d, t, os⟩ := by
  have hends := F.ends
  have hcB : (Value.ref C :: bm).contains (.type B) = true := by rw [List.contains_cons, hT, F.hasB, Bool.or_true]
  have hcA : (Value.ref C :: bm).contains (.type "AttributeError") = false := by rw [List.contains_cons, hT, F.noAttr]; rfl
  have hcN : (Value.ref C :: bm).contains (.type "NameError") = false := by rw [List.contains_cons, hT, F.noName]; rfl
  refine codeAny_builtinAt F.entry ?_
  unfold Builtin.«BaseException.__new__»
  refine wpAt_bind ?_
  show wpAt _ _ _ (stack >>= _) _ _ _
  refine wpAt_bind (wpAt_stack fun p below => wpAt_of_wpAny ?_)
  wp_walk
  refine wpAt_of_wpAny ?_
  rw [F.owner]
  repeat (first | with_reducible refine wpAny_madeHere_exc F.canon hC ?_ | with_reducible refine wpAny_loadPart_at hC ?_ | (with_reducible refine wpAny_isSubtype_exc hC ?_; first | rw [hcB] | rw [hcA] | rw [hcN]) | wp_step)
  show R _ _
  rw [Heap.size_push]
  exact hq
theorem type_call_k (F : ExcBaseFacts B newId initId bmB) (hT : ∀ X : String, bm.contains (.type X) = bmB.contains (.type X)) {rest : List Value} {fI : Addr} {Q : Fin → Shared → Prop}
    (hC : h.get? C = some (excClassObj nm q C N bs bm hdct sn sub ab col dd k0 k1 k2 k3 k5 newId))
    (hi : W.Looks (model prog w) h (typeLookup (.ref C) "__init__") (some (.ref fI))) (hb : ∀ self, W.Looks (model prog w) h (bindSpecial (.ref fI) self) (.ref fI, [self])) (hrest : rest.length ≤ sizeLine)
    (hq : codeAny (model prog w) A (.call (.ref fI) ⟨.ref (h.objs.size + 1) :: rest, kw⟩)
      (fun r s' => match r with | .ok (.ret v) => v = .none ∧ Q (.done (.ret (.ref (h.objs.size + 1)))) s' | .ok _ => False | .error e => E e s')
      ⟨(h.push (W.kdv_tup rest)).push (excO C h.objs.size), g, d, t, os⟩) :
    wpAny (model prog w) A (Builtin.«type.__call__» ⟨.ref C :: rest, kw⟩) Q E ⟨h, g, d, t, os⟩ := by
  repeat (first | with_reducible refine wpAny_loadPart_at hC ?_ | with_reducible refine wpAny_madeBy_exc hC ?_ | wp_step)
  refine codeAny_call_builtin_code (Code.quiet_builtin _ F.quiet) (check_new_k F hT hC ?_)
  refine new_k F hT hC ?_ hrest
  show wpAny _ _ _ _ _ _
  have k : ∀ b o, h.get? b = some o → ((h.push (W.kdv_tup rest)).push (excO C h.objs.size)).get? b = some o := fun b o e => Heap.get?_push_of_some _ (Heap.get?_push_of_some _ e)
  have hC₁ := k _ _ hC
  have hget : ((h.push (W.kdv_tup rest)).push (excO C h.objs.size)).get? (h.objs.size + 1) = some (excO C h.objs.size) := by heap_get
  have hcC : (Value.ref C :: bm).contains (.ref C) = true := by simp
  have i1 := hi.keeps k
  have b1 := (hb (.ref (h.objs.size + 1))).keeps k
  unfold isInstance
  repeat (first | with_reducible refine wpAny_loadPart_at hget ?_ | (with_reducible refine wpAny_isSubtype_exc hC₁ ?_; rw [hcC]) | wp_step)
  show wpAny _ _ (typeLookup (.ref C) _) _ _ _
  refine i1.at ?_
  refine wpAny_holding (wpAny_bind (b1.at ?_))
  refine wpAny_bind (wpAny_call (codeAny_mono hq fun r s' z => ?_))
  rcases r with e | (v | _ | _ | _) <;> first | exact z | exact z.elim | skip
  obtain ⟨rfl, z⟩ := z
  first
    | exact wpAny_pure (wpAny_pure z)
    | (wp_walk; exact z)
theorem call_k (F : ExcBaseFacts B newId initId bmB) (hT : ∀ X : String, bm.contains (.type X) = bmB.contains (.type X)) {rest : List Value} {fI : Addr}
    (hC : h.get? C = some (excClassObj nm q C N bs bm hdct sn sub ab col dd k0 k1 k2 k3 k5 newId))
    (hi : W.Looks (model prog w) h (typeLookup (.ref C) "__init__") (some (.ref fI))) (hb : ∀ self, W.Looks (model prog w) h (bindSpecial (.ref fI) self) (.ref fI, [self])) (hrest : rest.length ≤ sizeLine)
    (hq : codeAny (model prog w) (A.under (.builtin "type.__call__" ⟨.ref C :: rest, kw⟩)) (.call (.ref fI) ⟨.ref (h.objs.size + 1) :: rest, kw⟩) (W.InitBack (h.objs.size + 1) R)
      ⟨(h.push (W.kdv_tup rest)).push (excO C h.objs.size), g, d, t, os⟩) :
    codeAny (model prog w) A (.call (.ref C) ⟨rest, kw⟩) R ⟨h, g, d, t, os⟩ := by
  have f1 := tc_lookup
  have f2 := tc_bind (.ref C)
  have hTy : (⟨h, g, d, t, os⟩ : Shared).TypeIs (.ref C) "type" := ⟨_, hC, rfl⟩
  refine codeAny_of_tree ?_
  show wpAny _ _ (callAny (.ref C) _) _ _ _
  repeat (any_goals (first | assumption | with_reducible refine wpAny_loadPart_at hC ?_ | wp_step))
  refine ⟨rfl, ?_⟩
  refine codeAny_call_builtin_at (Code.quiet_builtin _ (by decide +kernel)) entry_typeCall (check_tc_k hC (type_call_k F hT hC hi hb hrest ?_))
  refine codeAny_mono hq fun r s' z => ?_
  rcases r with e | (v | _ | _ | _) <;> exact z
end
end TLX
end PySem
end

-- text TM2
section
set_option Elab.async false
set_option linter.all false
set_option maxRecDepth 100000
set_option maxHeartbeats 4000000
namespace TL
open PySem PySem.Spec PyProof.Rows L2

/-! ### an exception as a value: made -/
/-- at a stands an exception of the class at C with the fields fs -/
def AtX (H H' : Hp) (a C d : Addr) (fs : List (Str × V)) : Prop := H' d = some (exd d fs) ∧ H' a = some (exo a C (some d)) ∧ ∀ b, b ≠ a → b ≠ d → H' b = H b
def flX {α : Type} (ys : List Str) (ws : List α) : List (Str × α) := (ys.zip ws).reverse
def spI (C : Addr) (ys : List Str) : Sp := fun vs H Q _ => ∃ a ws, vs = .ref a :: ws ∧ ws.length = ys.length ∧ H a = some (exo a C none) ∧ ∀ d H', H d = none → d ≠ a → AtX H H' a C d (flX ys ws) → Q .non H'
/-- how an exception of the text is made -/
structure ExcV (Γ : Cs) (c : Str) (ys : List Str) : Prop where
  ex : ∃ (C fI : Addr) (fd : FuncData), Γ.mg c = some (.ref C) ∧ Γ.g.cls c = some C ∧ OexC Γ.g.K C ∧ PySem.W.findIn Γ.g.K (.ref C) "__init__" = some (some (.ref fI)) ∧ PySem.W.typeIn Γ.g.K (.ref fI) = some (.type "function") ∧
    FnOk Γ.P Γ.w Γ.g.K Γ.mg Γ.base (L2.CX Γ.P Γ.w) 1 fI fd ("self" :: ys) (spI C ys) ∧ Binds Γ.g.K fd ("self" :: ys) [] ∧
    (∀ (s : Shared) (u : Value) (pm : List Nat) (ws : List Value), Γ.g.K.In s.heap → (pm = [0] ∨ pm = [1, 0]) → ws.length = pm.length → pm.length = ys.length → BindsTo s fd ⟨[u], (pmL pm ys).zip ws⟩ ((("self" : Str) :: ys).zip (u :: pmL pm ws)))
  rm : 2 ≤ Γ.k
section
variable {g : Glb} {H H' : Hp} {Z : Addr → Prop}
theorem RepL.rev : ∀ {vs : List V} {ds : List D}, RepL g H Z vs ds [] → RepL g H Z vs.reverse ds.reverse []
  | [], [], _ => .nil
  | v :: vs, d :: ds, h => by
    obtain ⟨B, C, e, h1, h2⟩ := RepP.inv (p := (v, d)) (ps := vs.zip ds) (A := []) (by
      show RepL g H Z (((v, d) :: vs.zip ds).map (·.1)) (((v, d) :: vs.zip ds).map (·.2)) []
      have hl : vs.length = ds.length := Nat.succ.inj h.length
      rw [List.map_cons, List.map_cons, zip_fst hl, zip_snd hl]
      exact h)
    obtain ⟨rfl, rfl⟩ := List.nil_eq_append_iff.mp e
    rw [List.reverse_cons, List.reverse_cons]
    exact RepL.app (RepL.rev (RepP.items (Nat.succ.inj h.length) h2)) (.cons (A := []) (B := []) h1 .nil)
  | [], _ :: _, h => nomatch h
  | _ :: _, [], h => nomatch h
theorem flX_fst {α β : Type} {ys : List Str} {ws : List α} {ds : List β} (h1 : ws.length = ys.length) (h2 : ds.length = ys.length) : (flX ys ws).map (·.1) = (flX ys ds).map (·.1) := by
  unfold flX
  rw [List.map_reverse, List.map_reverse, zip_fst h1.symm, zip_fst h2.symm]
theorem flX_snd {α : Type} {ys : List Str} {ws : List α} (h1 : ws.length = ys.length) : (flX ys ws).map (·.2) = ws.reverse := by
  unfold flX
  rw [List.map_reverse, zip_snd h1.symm]
end
section
variable {g : Glb} {b : Bs} {H H' : Hp} {ps : Prs} {σ : Sg} {env : En} {F : Prs}
theorem AtX.ext {a C d : Addr} {fs : List (Str × V)} (h : AtX H H' a C d fs) (ha : H a = none) (hd : H d = none) : Ext H H' := fun x o e => by
  rw [h.2.2 x (ne_of_none e ha) (ne_of_none e hd)]
  exact e
theorem JJ.newExn {a C d : Addr} {c : Str} {ys : List Str} {vs : List V} {ds : List D} (hx : AtX H H' a C d (flX ys vs)) (ha : H a = none) (hd : H d = none) (hc : g.cls c = some C) (hv : vs.length = ys.length) (hl : vs.length = ds.length) (hf : frzL ds = ds) (j : JJ g b H (vs.zip ds ++ ps)) : JJ g b H' ((.ref a, .exn c (flX ys ds)) :: ps) := by
  obtain ⟨A, r, n, w⟩ := j
  have na : ∀ x ∈ A, x ≠ a ∧ x ≠ d := fun x m => by
    obtain ⟨u, h, _⟩ := r.own x m
    exact ⟨fun e => (by rw [e, ha] at h; cases h), fun e => (by rw [e, hd] at h; cases h)⟩
  have e := hx.ext ha hd
  have r2 : RepP g H' (· ∈ A) (vs.zip ds ++ ps) A := r.heap (fun x o _ _ h => e x o h) fun x m => hx.2.2 x (na x m).1 (na x m).2
  obtain ⟨B, E, rfl, h1, h2⟩ := r2.split
  have h3 : RepL g H' (· ∈ B ++ E) vs ds B := RepP.items hl h1
  obtain rfl : B = [] := RepL.nil_of hf h3
  refine ⟨E, RepP.cons (A := []) (p := (.ref a, .exn c (flX ys ds))) ?_ h2, n, w.ext e⟩
  refine .exn1 hx.2.1 hx.1 (fun m => (na a m).1 rfl) (fun m => (na d m).2 rfl) hc (flX_fst hv (hl ▸ hv)) ?_
  rw [flX_snd hv, flX_snd (hl ▸ hv)]
  exact h3.rev
theorem SJ.newExn {a C d : Addr} {c : Str} {ys : List Str} {vs : List V} {ds : List D} (hx : AtX H H' a C d (flX ys vs)) (ha : H a = none) (hd : H d = none) (hc : g.cls c = some C) (hv : vs.length = ys.length) (hl : vs.length = ds.length) (hf : frzL ds = ds) (j : SJ g b H σ env (vs.zip ds ++ F)) : SJ g b H' σ env ((.ref a, .exn c (flX ys ds)) :: F) :=
  j.on fun ps j => JJ.newExn (ps := F ++ ps) hx ha hd hc hv hl hf (by rw [← List.append_assoc]; exact j)
theorem JJ.newExn0 {a C : Addr} {c : Str} (ha : H a = none) (hc : g.cls c = some C) (j : JJ g b H ps) : JJ g b (upd H a (ExO (.ref C) a)) ((.ref a, .exn c []) :: ps) :=
  JJ.newG (qs := []) [] (fun x m => nomatch m) List.nodup_nil ha (fun Z A z h => by
    cases h
    exact .exn0 upd_same (z List.not_mem_nil) hc) j
end
/-- C(..), as a value -/
def tMkV (C : Addr) (sp : Sp) (ta : TA) : TE := fun σ H Q => ta σ H fun vs H1 => vs.length ≤ 1000 ∧ ∀ a, H1 a = none → sp (.ref a :: vs) (upd H1 a (exo a C none)) (fun v H2 => v = .non ∧ Q (.ref a) H2) (fun _ _ _ => False)
section
variable {X : Cx} {e : Expr} {es : List Expr} {kws : List Keyword} {t ta : TA} {p pos : Pos}
theorem run_mkV {C fI : Addr} {fd : FuncData} {ps : List Str} {sp : Sp} {pins : List (Addr × Obj)} {σ : L2.St} {H1 : Hp} {s1 : Shared} {Q : VK} {us : List Value} {kw : List (Str × Value)} {vs : List V} {ws : List Value} (T : OexC X.K C) (iC : PySem.W.findIn X.K (.ref C) "__init__" = some (some (.ref fI))) (tI : PySem.W.typeIn X.K (.ref fI) = some (.type "function"))
    (F1 : FnOk X.prog X.w X.K X.mg X.base (L2.CX X.prog X.w) 1 fI fd ps sp) (hr : Room 2 X.A) (hu : us.length ≤ sizeLine) (hb : ∀ (s : Shared) (u : Value), X.K.In s.heap → BindsTo s fd ⟨u :: us, kw⟩ (ps.zip (u :: ws)))
    (I1 : Inv X pins σ H1 s1) (r1 : Vals vs ws) (q1 : ∀ a, H1 a = none → sp (.ref a :: vs) (upd H1 a (exo a C none)) (fun v H2 => v = .non ∧ Q (.ref a) H2) (fun _ _ _ => False)) : wpAny (model X.prog X.w) X.A (call (.ref C) us kw) (EP X pins σ Q) X.xe s1 := by
  obtain ⟨nm, q, N, bs, bm, sn, sub, ab, col, dd, k0, k1, k2, k3, k5, hC, hbm⟩ := T.cls
  obtain ⟨hp, g, dr, tk, os⟩ := s1
  have hsz : hp.objs.size ≤ hp.objs.size + 1 := Nat.le_succ _
  have hn : H1 (hp.objs.size + 1) = none := I1.hok.fresh hsz
  have hq := q1 (hp.objs.size + 1) hn
  have kk : ∀ b o, hp.get? b = some o → ((hp.push (PySem.W.kdv_tup us)).push (PySem.HandSPX.excO C hp.objs.size)).get? b = some o := fun b o e => Heap.get?_push_of_some _ (Heap.get?_push_of_some _ e)
  have hget : ((hp.push (PySem.W.kdv_tup us)).push (PySem.HandSPX.excO C hp.objs.size)).get? (hp.objs.size + 1) = some (PySem.HandSPX.excO C hp.objs.size) := by heap_get
  have I2 : Inv X pins σ (upd H1 (hp.objs.size + 1) (exo (hp.objs.size + 1) C none)) ⟨(hp.push (PySem.W.kdv_tup us)).push (PySem.HandSPX.excO C hp.objs.size), g, dr, tk, os⟩ :=
    I1.laid (t' := tk) (a := hp.objs.size + 1) (o := exo (hp.objs.size + 1) C none) (h' := (hp.push (PySem.W.kdv_tup us)).push (PySem.HandSPX.excO C hp.objs.size)) kk hsz (exo_ok hget)
  have r2 : Vals (V.ref (hp.objs.size + 1) :: vs) (Value.ref (hp.objs.size + 1) :: ws) := .cons rfl r1
  refine wpAny_call (PySem.TLX.call_k F.excBase_ValueError (fun Y => PySem.HandSPX.refsVE_contains Y bm hbm) (I1.kIn _ _ hC) (PySem.W.looks_findIn I1.kIn iC) (fun self => PySem.W.bind_fn I1.kIn self tI) hu
    (codeAny_mono (F1.run _ X.stack _ _ ⟨Value.ref (hp.objs.size + 1) :: us, kw⟩ (Value.ref (hp.objs.size + 1) :: ws) _ _ (fun _ _ _ => False) (hr.make C us kw) (I2.env0.make C us kw) (hb _ _ I2.kIn) r2 hq) fun r s' hq' => ?_))
  cases r with
  | error er =>
    obtain ⟨_, _, _, _, _, _, _, _, _, _, _, _, z⟩ := hq'
    exact z.elim
  | ok fl =>
    cases fl with
    | ret u =>
      obtain ⟨v, H', I3, rv, ev, q3⟩ := I2.after hq'
      subst ev
      exact ⟨rv, ⟨V.ref (hp.objs.size + 1), H', I3, rfl, q3⟩⟩
    | next => exact False.elim hq'
    | brk => exact False.elim hq'
    | cont => exact False.elim hq'
end
end TL
end

-- text TM3
section
set_option Elab.async false
set_option linter.all false
set_option maxRecDepth 100000
set_option maxHeartbeats 4000000
namespace TL
open PySem PySem.Spec PyProof.Rows L2

section
variable {Γ : Cs} {sc : Scope} {p pa pb : Bool} {e : Expr} {es : List Expr} {kws : List Keyword} {ma : M D} {ms : M (List D)} {n : Rdr} {pos : Pos} {c : Str} {ys : List Str}
def mExn (c : Str) (ys : List Str) (ms : M (List D)) : M D := fun env => (ms env).bind fun ds e => if ds.length = ys.length ∧ ds.length ≤ 900 then .ok (.exn c (flX ys (frzL ds))) e else .bad
theorem AtX.up {H1 H' : Hp} {a C d : Addr} {o : HO} {fs : List (Str × V)} (h : AtX (upd H1 a o) H' a C d fs) : AtX H1 H' a C d fs := ⟨h.1, h.2.1, fun x h1 h2 => (h.2.2 x h1 h2).trans (upd_ne h1)⟩
theorem exn_sp {g : Glb} {b : Bs} {W : L2.WX} {σ : Sg} {H H1 : Hp} {F : Prs} {Q : VK} {c : Str} {C : Addr} {vs : List V} {ds : List D} {e : En} (hc : g.cls c = some C) (hl : ds.length = ys.length) (h : PoE g b p W σ H F Q (.ok (.exn c (flX ys (frzL ds))) e)) (l : vs.length = ds.length)
    (j : SJ g b H1 σ e (vs.zip ds ++ F)) (x : p = true → Ext H H1) : ∀ a, H1 a = none → spI C ys (.ref a :: vs) (upd H1 a (exo a C none)) (fun v H2 => v = .non ∧ Q (.ref a) H2) (fun _ _ _ => False) := fun a ha =>
  ⟨a, vs, rfl, l.trans hl, upd_same, fun d H' hd ne hx => by
    rw [upd_ne ne] at hd
    have hx' := AtX.up hx
    refine ⟨rfl, h (.ref a) H' (SJ.newExn hx' ha hd hc (l.trans hl) (by rw [frzL_len]; exact l) (frzL_idem _) (SJ.freezeL l j)) fun z => (x z).trans (hx'.ext ha hd)⟩⟩
theorem E_exn {pn : Pos} (hX : ExcV Γ c ys) (hg : sc.names.lookup c = some .globalImplicit) (ha : SA Γ sc p (e :: es) ms) (hdb : (c == ("__debug__" : Str)) = false := by decide) (he : ∀ X : Cx, starEach (e :: es) X.env = (false, eval e X.env) :: starEach es X.env := by intro _; rfl)
    (hpl : ∀ X : Cx, (backTo pos (starEach es X.env)).any (·.1) = false := by intro _; rfl) : SE Γ sc p (.Call (.Name c pn) (e :: es) [] pos) (mExn c ys ms) := fun X W G T => by
  obtain ⟨C, fI, fd, h1, h2, h3, h4, h5, h6, h7, _⟩ := hX.ex
  refine ⟨fun pins s σ H Q I h => ?_⟩
  obtain ⟨b, env, F, j, h⟩ := h
  refine wpAny_Call_Name_kw (ld_glob I (gl_of hg G.sc) (by rw [G.mg]; exact h1) ?_ hdb)
  refine PySem.W.callWith_K (h₀ := X.base) I.ok.mod.kin (by rw [G.K]; exact h3.kC) (thn ((ha X W G T).run pos pins s σ H (fun vs H1 => vs.length = ys.length ∧ vs.length ≤ 900 ∧ ∀ a, H1 a = none → spI C ys (.ref a :: vs) (upd H1 a (exo a C none)) (fun v H2 => v = .non ∧ Q (.ref a) H2) (fun _ _ _ => False)) I ⟨b, env, F, j, ?_⟩) fun us s1 ⟨vs, H1, I1, r1, l1, l2, q1⟩ => ⟨I1.kIn, ?_⟩) (he X) (hpl X)
  · unfold mExn at h
    cases q : ms env with
    | bad => rw [q] at h; exact h.elim
    | exc c fs e => rw [q] at h; exact h
    | ok ds e1 =>
      rw [q] at h
      have h' : PoE Γ.g b p W σ H F Q (if ds.length = ys.length ∧ ds.length ≤ 900 then .ok (.exn c (flX ys (frzL ds))) e1 else .bad) := h
      by_cases z : ds.length = ys.length ∧ ds.length ≤ 900
      · rw [if_pos z] at h'
        exact fun vs H1 l j1 x1 => ⟨l.trans z.1, by rw [l]; exact z.2, exn_sp h2 z.1 h' l j1 x1⟩
      · rw [if_neg z] at h'
        exact h'.elim
  · have lu : us.length = ys.length := by rw [← r1.length]; exact l1
    refine run_mkV (us := us) (ws := us) (kw := []) (by rw [G.K]; exact h3) (by rw [G.K]; exact h4) (by rw [G.K]; exact h5) (by rw [G.prog, G.w, G.K, G.mg, G.base]; exact h6) (G.room.mono hX.rm) (by rw [← r1.length, sizeLine_eq]; omega) (fun s u hk => ?_) I1 r1 q1
    have := h7 s (u :: us) (by rw [← G.K]; exact hk) (by rw [List.append_nil, List.length_cons, List.length_cons, lu])
    rw [List.append_nil] at this
    exact this
/-- by name -/
def mExnK (c : Str) (ys : List Str) (pm : List Nat) (ms : M (List D)) : M D := fun env => (ms env).bind fun ds e => if ds.length = pm.length ∧ ds.length ≤ 900 then .ok (.exn c (flX ys (frzL (pmL pm ds)))) e else .bad
theorem E_exnK {pm : List Nat} {ks : List Str} {pn : Pos} (hX : ExcV Γ c ys) (hp : pm = [0] ∨ pm = [1, 0]) (hpl' : pm.length = ys.length) (hks' : pmL pm ys = ks) (hg : sc.names.lookup c = some .globalImplicit) (ha : SK Γ sc p kws ms) (hdb : (c == ("__debug__" : Str)) = false := by decide)
    (hall : ∀ X : Cx, (backToKw pos (keywordEach kws X.env)).all (·.1.isSome) = true := by intro _; rfl) (hks : ∀ X : Cx, (backToKw pos (keywordEach kws X.env)).filterMap (·.1) = ks := by intro _; rfl)
    (hpl : ∀ X : Cx, ((backTo pos (starEach [] X.env)).any (·.1) || (backToKw pos (keywordEach kws X.env)).any (·.1.isNone)) = false := by intro _; rfl) : SE Γ sc p (.Call (.Name c pn) [] kws pos) (mExnK c ys pm ms) := fun X W G T => by
  obtain ⟨C, fI, fd, h1, h2, h3, h4, h5, h6, _, h7⟩ := hX.ex
  have pl : ∀ {α : Type} (l : List α), l.length = pm.length → (pmL pm l).length = pm.length := fun l hl => by
    rcases hp with rfl | rfl
    · match l, hl with
      | [a], _ => rfl
    · match l, hl with
      | [a, b], _ => rfl
  have pp : ∀ {α : Type} (l : List α), l.length = pm.length → (pmL pm l).Perm l := fun l hl => by
    rcases hp with rfl | rfl
    · match l, hl with
      | [a], _ => exact .refl _
    · match l, hl with
      | [a, b], _ => exact .swap ..
  refine ⟨fun pins s σ H Q I h => ?_⟩
  obtain ⟨b, env, F, j, h⟩ := h
  refine wpAny_Call_Name_kw (ld_glob I (gl_of hg G.sc) (by rw [G.mg]; exact h1) ?_ hdb)
  refine PySem.W.callWith_KW0 (h₀ := X.base) I.ok.mod.kin (by rw [G.K]; exact h3.kC) (hall X) (thn ((ha X W G T).run pos pins s σ H (fun vs H1 => vs.length = pm.length ∧ ∀ a, H1 a = none → spI C ys (.ref a :: pmL pm vs) (upd H1 a (exo a C none)) (fun v H2 => v = .non ∧ Q (.ref a) H2) (fun _ _ _ => False)) I ⟨b, env, F, j, ?_⟩) fun us s1 ⟨vs, H1, I1, r1, l1, q1⟩ => ⟨I1.kIn, ?_⟩) (hpl X)
  · unfold mExnK at h
    cases q : ms env with
    | bad => rw [q] at h; exact h.elim
    | exc c fs e => rw [q] at h; exact h
    | ok ds e1 =>
      rw [q] at h
      have h' : PoE Γ.g b p W σ H F Q (if ds.length = pm.length ∧ ds.length ≤ 900 then .ok (.exn c (flX ys (frzL (pmL pm ds)))) e1 else .bad) := h
      by_cases z : ds.length = pm.length ∧ ds.length ≤ 900
      · rw [if_pos z] at h'
        refine fun vs H1 l j1 x1 => ⟨l.trans z.1, exn_sp h2 ((pl ds z.1).trans hpl') h' (pmL_len l pm) ?_ x1⟩
        rw [pmL_zip l]
        refine j1.perm (List.Perm.append_right _ (pp _ ?_).symm)
        rw [List.length_zip, l, Nat.min_self]
        exact z.1
      · rw [if_neg z] at h'
        exact h'.elim
  · rw [hks X]
    have lu : us.length = pm.length := by rw [← r1.length]; exact l1
    refine run_mkV (us := []) (ws := pmL pm us) (kw := ks.zip us) (by rw [G.K]; exact h3) (by rw [G.K]; exact h4) (by rw [G.K]; exact h5) (by rw [G.prog, G.w, G.K, G.mg, G.base]; exact h6) (G.room.mono hX.rm) (Nat.zero_le _) (fun s u hk => ?_) I1 (pmL_vals r1 pm) q1
    have := h7 s u pm us (by rw [← G.K]; exact hk) hp lu hpl'
    rw [hks'] at this
    exact this
/-- C(): a class without own __init__ -/
structure ExcN (Γ : Cs) (c : Str) : Prop where
  ex : ∃ (C : Addr) (bmB : List Value) (B newId initId : String), ExcBaseFacts B newId initId bmB ∧ Γ.mg c = some (.ref C) ∧ Γ.g.cls c = some C ∧ PySem.W.excIn Γ.g.K C bmB newId = true ∧ PySem.W.keepIn Γ.g.K (.ref C) = true
def mExn0 (c : Str) : M D := fun env => .ok (.exn c []) env
theorem E_exn0 {pn : Pos} (hX : ExcN Γ c) (hg : sc.names.lookup c = some .globalImplicit) (hdb : (c == ("__debug__" : Str)) = false := by decide) : SE Γ sc true (.Call (.Name c pn) [] [] pos) (mExn0 c) := fun X W G T => by
  obtain ⟨C, bmB, B, newId, initId, FB, h1, h2, h3, h4⟩ := hX.ex
  refine ⟨fun pins s σ H Q I h => ?_⟩
  obtain ⟨b, env, F, j, h⟩ := h
  refine wpAny_Call_Name_kw (ld_glob I (gl_of hg G.sc) (by rw [G.mg]; exact h1) ?_ hdb)
  refine PySem.W.callWith_K0 I.kIn (by rw [G.K]; exact h4) ?_
  obtain ⟨bm, N, nm, qn, bs, hdct, sn, sub, ab, col, dd, k0, k1, k2, k3, k5, mN, hC, hN, hni, T'⟩ := exc_obj I.kIn (by rw [G.K]; exact h3)
  refine wpAny_call_exc_subT FB T' hC hN hni (fun h' a hm => ?_) (Nat.zero_le _)
  have hn : H a = none := I.hok.gone hm.new
  obtain ⟨t, ht, _, _⟩ := hm.there
  refine ⟨.ref a, upd H a (ExO (.ref C) a), I.laidN hm.keeps hm.new hn (exO_ok ht ⟨rfl, rfl⟩ rfl rfl rfl (show 4 < 6 by decide)), rfl, h (.ref a) _ (j.on fun ps j => JJ.newExn0 (ps := F ++ ps) hn h2 j) fun _ => Ext.new hn⟩
end
end TL
end

-- text TM4
section
set_option Elab.async false
set_option linter.all false
set_option maxRecDepth 100000
set_option maxHeartbeats 4000000
namespace TL
open PySem PySem.Spec PyProof.Rows L2

/-! ### isinstance of an exception held as a value -/
def XAt (H : Hp) (a C : Addr) : Prop := H a = some (ExO (.ref C) a) ∨ (∃ d fs, H a = some (exo a C (some d)) ∧ H d = some (exd d fs)) ∨ ∃ oe, H a = some (ExX oe a) ∧ XObj H oe C
theorem XAt.ext {H H' : Hp} {a C : Addr} (e : Ext H H') (h : XAt H a C) : XAt H' a C := h.elim (fun h => .inl (e _ _ h)) fun h => h.elim (fun ⟨d, fs, h1, h2⟩ => .inr (.inl ⟨d, fs, e _ _ h1, e _ _ h2⟩)) fun ⟨oe, h1, h2⟩ => .inr (.inr ⟨oe, e _ _ h1, h2.to fun d vfs _ h3 => e _ _ h3⟩)
theorem kit_x {X : Cx} {pins : List (Addr × Obj)} {σ : L2.St} {H : Hp} {s : Shared} {a C : Addr} (I : Inv X pins σ H s) (h : XAt H a C) (E : ExcC X.K C) : ∃ P : Heap → Prop, PySem.W.KitX X.K (.ref a) (.ref C) P ∧ P s.heap := by
  have hcl : (PySem.W.clsIn X.K C).isSome = true := by
    obtain ⟨cd, hc, _⟩ := PySem.W.any_some E.hd
    rw [hc]
    rfl
  rcases h with h | ⟨d, fs, h1, h2⟩ | ⟨oe, h1, ⟨z1, ⟨vs, z2⟩, z3⟩⟩
  · obtain ⟨⟨oe, vs, ho, hz, hd, _⟩, _, _⟩ := I.hok a _ h
    refine ⟨_, PySem.W.kitx_exc (ox := oe) (od := none) hcl E.hg E.hk E.hs E.ha E.hn E.ht E.hm, ?_⟩
    obtain ⟨oc, od, oda, osl⟩ := oe
    obtain ⟨z1, z2⟩ := hz
    dsimp only at z1 z2 hd
    subst z1 z2 hd
    exact ⟨ho, rfl, rfl, trivial⟩
  · obtain ⟨t1, ho⟩ := exo_at I.hok h1
    obtain ⟨mA, ⟨oD, es, ep, hoD, _⟩, _⟩ := exd_at I.hok h2
    exact ⟨_, PySem.W.kitx_exc (od := some oD) hcl E.hg E.hk E.hs E.ha E.hn E.ht E.hm, ho, rfl, rfl, hoD⟩
  · obtain ⟨ho, _, _⟩ := (show ObjOk X.prog X.w H s.heap a (.ext fun h => h.get? a = some oe) from I.hok a _ h1)
    have ho' : s.heap.get? a = some oe := ho
    have nc : PySem.W.notCls oe = true := by
      unfold PySem.W.notCls
      rw [z2]
    rcases z3 with z3 | ⟨d, vfs, z3, z4⟩
    · exact ⟨_, PySem.W.kitx_exc (ox := oe) (od := none) hcl E.hg E.hk E.hs E.ha E.hn E.ht E.hm, ho', z1, nc, by rw [z3]; trivial⟩
    · have hx : ObjOk X.prog X.w H s.heap d (.xd vfs) := I.hok d _ z4
      obtain ⟨mA, ⟨oD, es, ep, hoD, _⟩, _⟩ := hx
      exact ⟨_, PySem.W.kitx_exc (ox := oe) (od := some oD) hcl E.hg E.hk E.hs E.ha E.hn E.ht E.hm, ho', z1, nc, by rw [z3]; exact hoD⟩
def rIsX (K : PySem.W.Frag) : List V → Hp → VK → Prop := fun xs H Q => ∃ (a C : Addr) (c : V) (u : Value) (b : Bool), xs = [.ref a, c] ∧ ClsV c u ∧ XAt H a C ∧ ExcC K C ∧ PySem.W.kitOne K (.ref C) u = some b ∧ Q (.bl b) H
def rIsXT (K : PySem.W.Frag) : List V → Hp → VK → Prop := fun xs H Q => ∃ (a C tp : Addr) (cs : List V) (us : List Value) (b : Bool), xs = [.ref a, .ref tp] ∧ H tp = some (.tup cs) ∧ Paired ClsV cs us ∧ XAt H a C ∧ ExcC K C ∧ PySem.W.kitAny K (.ref C) us = some b ∧ Q (.bl b) H
theorem call_isX {X : Cx} : CallR X (.builtin "isinstance") (rIsX X.K) := by
  intro pins s σ H xs us Q I r h
  obtain ⟨a, C, c, u, b, rfl, k, x, E, e, q⟩ := h
  obtain ⟨u1, u2, rfl, r1, r2⟩ := vals2 r
  have e2 := k.eq r2
  subst e2
  cases (show u1 = Value.ref a from r1)
  obtain ⟨P, Z, pz⟩ := kit_x I x E
  exact PySem.W.kia_one Z I.kIn pz e (fun z => nomatch z) fun tk => ⟨.bl b, H, I.tok tk, rfl, q⟩
theorem call_isXT {X : Cx} : CallR X (.builtin "isinstance") (rIsXT X.K) := by
  intro pins s σ H xs us Q I r h
  obtain ⟨a, C, tp, cs, ws, b, rfl, hT, k, x, E, e, q⟩ := h
  obtain ⟨u1, u2, rfl, r1, r2⟩ := vals2 r
  cases (show u2 = Value.ref tp from r2)
  cases (show u1 = Value.ref a from r1)
  obtain ⟨P, Z, pz⟩ := kit_x I x E
  obtain ⟨_, its, rv, o, h1, h2, n, h3⟩ := (show ObjOk X.prog X.w H s.heap tp (.tup cs) from I.hok tp _ hT)
  have e3 := ClsV.all k rv
  subst e3
  obtain ⟨oc, od, dt, sl⟩ := o
  simp only at h2 h3
  subst h2 h3
  exact PySem.W.kia_tup Z I.kIn pz h1 e (fun z => nomatch z) fun tk => ⟨.bl b, H, I.tok tk, rfl, q⟩
/-- classes by name: own ones and ones that are built in, as values -/
inductive ClNm (Γ : Cs) (sc : Scope) (cs : List Str) : List Expr → List Str → List V → List Value → Prop
  | nil : ClNm Γ sc cs [] [] [] []
  | own {k : Str} {C : Addr} {q : Pos} {es : List Expr} {ks : List Str} {vs : List V} {us : List Value} (hg : sc.names.lookup k = some .globalImplicit) (hm : Γ.mg k = some (.ref C)) (hd : (k == ("__debug__" : Str)) = false) (hc : k ∈ cs ++ [("RunError" : Str)]) (r : ClNm Γ sc cs es ks vs us) : ClNm Γ sc cs (.Name k q :: es) (k :: ks) (.ref C :: vs) (.ref C :: us)
  | ty {k : Str} {t : String} {q : Pos} {es : List Expr} {ks : List Str} {vs : List V} {us : List Value} (hB : Blt Γ sc k (.type t)) (hn : k ≠ "__name__") (hd : (k == ("__debug__" : Str)) = false) (hc : k ∈ ([("ValueError" : Str), "KeyError", "IndexError", "TypeError"] : List Str)) (r : ClNm Γ sc cs es ks vs us) : ClNm Γ sc cs (.Name k q :: es) (k :: ks) (.ty t :: vs) (.type t :: us)
/-- what the written part says: whose kind an exception of the classes cs is -/
structure IsF (Γ : Cs) (cs : List Str) (tab : Str → Str → Bool) : Prop where
  inst : ∀ c ∈ cs, ∀ C, Γ.g.cls c = some C → ExcC Γ.g.K C
  own : ∀ c ∈ cs, ∀ k D, Γ.mg k = some (.ref D) → ∀ C, Γ.g.cls c = some C → k ∈ cs ++ [("RunError" : Str)] → PySem.W.kitOne Γ.g.K (.ref C) (.ref D) = some (tab c k)
  ty : ∀ c ∈ cs, ∀ C, Γ.g.cls c = some C → ∀ (k : Str) (t : String), bootBuiltins k = some (.type t) → k ∈ ([("ValueError" : Str), "KeyError", "IndexError", "TypeError"] : List Str) → PySem.W.kitOne Γ.g.K (.ref C) (.type t) = some (tab c k)
def clOk (cs : List Str) (k : Str) : Bool := decide (k ∈ cs ++ [("RunError" : Str)]) || decide (k ∈ ([("ValueError" : Str), "KeyError", "IndexError", "TypeError"] : List Str))
section
variable {Γ : Cs} {sc : Scope} {p pa pb : Bool} {e : Expr} {es : List Expr} {n : Rdr} {pos : Pos} {cs ks : List Str} {vs : List V} {us : List Value} {tab : Str → Str → Bool}
theorem ClNm.args (h : ClNm Γ sc cs es ks vs us) {X : Cx} (G : Good Γ sc X) : PA X es (fun σ H Q => Q vs H) := by
  induction h with
  | nil => exact pa_nil
  | @own k C q es ks vs us hg hm hd hcc r ih => exact pa_cons (pe_glob (v := .ref C) (gl_of hg G.sc) (by rw [G.mg]; exact hm) rfl hd) ih (by rfl)
  | ty hB hn hd hcc r ih => exact pa_cons (pe_bltn (v := .ty _) (hB.g G) (hB.m G) hB.bt rfl hn hd) ih (by rfl)
theorem ClNm.paired (h : ClNm Γ sc cs es ks vs us) : Paired ClsV vs us := by
  induction h with
  | nil => exact .nil
  | own hg hm hd hcc r ih => exact .cons (.own _) ih
  | ty hB hn hd hcc r ih => exact .cons (.ty _) ih
theorem ClNm.len (h : ClNm Γ sc cs es ks vs us) : vs.length = ks.length := by
  induction h with
  | nil => rfl
  | own hg hm hd hcc r ih => exact congrArg Nat.succ ih
  | ty hB hn hd hcc r ih => exact congrArg Nat.succ ih
structure IsOk (Γ : Cs) (cs ks : List Str) (tab : Str → Str → Bool) (us : List Value) : Prop where
  all : ∀ c ∈ cs, ∀ C, Γ.g.cls c = some C → PySem.W.kitAny Γ.g.K (.ref C) us = some (ks.any (tab c))
theorem ClNm.any (h : ClNm Γ sc cs es ks vs us) (F : IsF Γ cs tab) : IsOk Γ cs ks tab us := by
  induction h with
  | nil => exact ⟨fun c m C hc => rfl⟩
  | @own k C q es ks vs us hg hm hd hcc r ih =>
    refine ⟨fun c m C' hc => ?_⟩
    have h1 := F.own c m k C hm C' hc hcc
    refine kitAny_cons h1 (fun z => ?_) fun z => ?_
    · rw [List.any_cons, z, Bool.false_or]; exact ih.all c m C' hc
    · rw [List.any_cons, z, Bool.true_or]
  | @ty k t q es ks vs us hB hn hd hcc r ih =>
    refine ⟨fun c m C' hc => ?_⟩
    have h1 := F.ty c m C' hc k t hB.bt hcc
    refine kitAny_cons h1 (fun z => ?_) fun z => ?_
    · rw [List.any_cons, z, Bool.false_or]; exact ih.all c m C' hc
    · rw [List.any_cons, z, Bool.true_or]
theorem Lk.exn {g : Glb} {b : Bs} {H : Hp} {σ : Sg} {env : En} {F : Prs} {v : V} {c : Str} {gs : List (Str × D)} (k : Lk g b H σ env F v (.exn c gs)) : ∃ a C, v = .ref a ∧ g.cls c = some C ∧ XAt H a C := by
  obtain ⟨ps, A, B, h1, h2, h3, h4, h5, h6⟩ := k
  cases h6 with
  | exn0 h z hc => exact ⟨_, _, rfl, hc, .inl h⟩
  | exn1 h h' z z' hc e r => exact ⟨_, _, rfl, hc, .inr (.inl ⟨_, _, h, h'⟩)⟩
  | exn2 h z y x hc => exact ⟨_, _, rfl, hc, .inr (.inr ⟨_, h, x⟩)⟩
def isXD (cs ks : List Str) (tab : Str → Str → Bool) : D → Option D
  | .exn c _ => if c ∈ cs then some (.bl (ks.any (tab c))) else none
  | _ => none
theorem isXD_some {d z : D} (h : isXD cs ks tab d = some z) : ∃ c gs, d = .exn c gs ∧ c ∈ cs ∧ z = .bl (ks.any (tab c)) := by
  unfold isXD at h
  split at h
  · rename_i c gs
    by_cases m : c ∈ cs
    · rw [if_pos m] at h
      exact ⟨c, gs, rfl, m, (Option.some.inj h).symm⟩
    · rw [if_neg m] at h; cases h
  · cases h
/-- isinstance(e, C) -/
theorem R_isX1 {k : Str} {v : V} {u : Value} {pn pk : Pos} (F : IsF Γ cs tab) (hB : Blt Γ sc "isinstance" (.builtin "isinstance")) (hN : ClNm Γ sc cs [(.Name k pk)] [k] [v] [u]) (ha : SR Γ sc e n)
    (he : ∀ X : Cx, starEach [e, (.Name k pk)] X.env = (false, eval e X.env) :: starEach [(.Name k pk)] X.env := by intro _; rfl) : SR Γ sc (.Call (.Name "isinstance" pn) [e, (.Name k pk)] [] pos) (rUn (isXD cs [k] tab) n) := fun X G =>
  PE.imp (pe_callB call_isX (hB.g G) (hB.m G) hB.bt (pa_cons (ha X G) (hN.args G) (he X)) (by decide) (by decide) (he X) rfl) fun σ H Q ⟨b, env, F', z, j, hd, h⟩ => by
    obtain ⟨x, h1, h2⟩ := Option.bind_eq_some_iff.mp hd
    obtain ⟨c, gs, rfl, hc, rfl⟩ := isXD_some h2
    refine ⟨b, env, F', _, j, h1, fun w kk => ?_⟩
    obtain ⟨a, C, rfl, hC, hx⟩ := kk.exn
    refine ⟨a, C, v, u, [k].any (tab c), rfl, ?_, hx, by rw [G.K]; exact F.inst c hc C hC, ?_, h _ (Lk.add (fun _ _ => .bl _) j)⟩
    · cases hN.paired with
      | cons x _ => exact x
    · rw [G.K]
      have := (hN.any F).all c hc C hC
      unfold PySem.W.kitAny at this
      cases q : PySem.W.kitOne Γ.g.K (.ref C) u with
      | none => rw [q] at this; cases this
      | some t =>
        rw [q] at this
        cases t with
        | true => exact this
        | false => exact this
/-- isinstance(e, (C, ..)) -/
theorem E_isXT {x1} {pn pt : Pos} (F : IsF Γ cs tab) (hB : Blt Γ sc "isinstance" (.builtin "isinstance")) (hN : ClNm Γ sc cs es ks vs us) (ha : SR Γ sc e n) (hl : ks.length ≤ sizeLine := by decide)
    (he : ∀ X : Cx, starEach [e, .Tuple es x1 pt] X.env = (false, eval e X.env) :: starEach [.Tuple es x1 pt] X.env := by intro _; rfl) : SE Γ sc true (.Call (.Name "isinstance" pn) [e, .Tuple es x1 pt] [] pos) (mUn (isXD cs ks tab) n) := fun X W G T =>
  PE.imp (pe_callB call_isXT (hB.g G) (hB.m G) hB.bt (pa_cons (ha X G) (pa_cons (pe_tup (hN.args G)) pa_nil (by rfl)) (he X)) (by decide) (by decide) (he X) rfl) fun σ H Q ⟨b, env, F', j, h⟩ => by
    unfold mUn at h
    cases hd : rUn (isXD cs ks tab) n env with
    | none => rw [hd] at h; exact h.elim
    | some z =>
      rw [hd] at h
      obtain ⟨x, h1, h2⟩ := Option.bind_eq_some_iff.mp hd
      obtain ⟨c, gs, rfl, hc, rfl⟩ := isXD_some h2
      refine ⟨b, env, F', _, j, h1, fun w kk => ⟨by rw [hN.len]; exact hl, fun q hq => ?_⟩⟩
      obtain ⟨a, C, rfl, hC, hx⟩ := kk.exn
      refine ⟨a, C, q, vs, us, _, rfl, upd_same, hN.paired, hx.ext (Ext.new hq), by rw [G.K]; exact F.inst c hc C hC, by rw [G.K]; exact (hN.any F).all c hc C hC, h _ _ ?_ fun _ => Ext.new hq⟩
      have j2 : SJ Γ.g b (upd H q (.tup vs)) σ env F' := j.ext (Ext.new hq)
      exact j2.add fun _ => .bl _
theorem IsF.N {N : List Str} (h : IsF Γ cs tab) : IsF { Γ with N := N } cs tab := ⟨h.inst, h.own, h.ty⟩
end
end TL
end

-- text TM5
section
set_option Elab.async false
set_option linter.all false
set_option maxRecDepth 100000
set_option maxHeartbeats 4000000
namespace TL
open PySem PySem.Spec PyProof.Rows L2

/-! ### a field of an exception held as a value -/
structure XaF (Γ : Cs) (cs : List Str) (f : Str) : Prop where
  of : ∀ c ∈ cs, ∀ C, Γ.g.cls c = some C → XfC Γ.g.K C ∧ PySem.W.findIn Γ.g.K (.ref C) f = some none
def rXat (cs : List Str) (f : Str) (n : Rdr) : Rdr := fun env => match n env with
  | some (.exn c gs) => if c ∈ cs then gs.lookup f else none
  | _ => none
section
variable {Γ : Cs} {sc : Scope} {p pa pb : Bool} {e a : Expr} {es : List Expr} {n na nb : Rdr} {pos : Pos} {cs : List Str} {f : Str}
theorem Lk.exnF {g : Glb} {b : Bs} {H : Hp} {σ : Sg} {env : En} {F : Prs} {v : V} {c : Str} {gs : List (Str × D)} (k : Lk g b H σ env F v (.exn c gs)) {z : D} (h : gs.lookup f = some z) : ∃ a C dd fs u, v = .ref a ∧ g.cls c = some C ∧ H a = some (exo a C (some dd)) ∧ H dd = some (exd dd fs) ∧ fs.lookup f = some u ∧ Lk g b H σ env F u z := by
  obtain ⟨ps, A, B, h1, h2, h3, h4, h5, h6⟩ := k
  cases h6 with
  | exn0 h' z hc => cases h
  | exn2 h' z y x hc => cases h
  | exn1 h7 h8 z z' hc he r =>
    obtain ⟨m, a', c'⟩ := lookup_get he h
    obtain ⟨u, C, e1, e2, m'⟩ := r.get a'
    exact ⟨_, _, _, _, u, rfl, hc, h7, h8, c' u e1, ps, A, C, h1, h2, h3, h4, fun a q => (nomatch m' a q), e2⟩
theorem SR_xat (hF : XaF Γ cs f) (ha : SR Γ sc a na) (hb : ∀ X : Cx, attributeBase a f X.env (eval a X.env) = eval a X.env) : SR Γ sc (.Attribute a f pos) (rXat cs f na) := fun X G => by
  refine ⟨fun pins s σ H Q I h => ?_⟩
  obtain ⟨b, env, F, z, j, hd, h⟩ := h
  unfold rXat at hd
  split at hd
  · rename_i c gs e0
    by_cases m : c ∈ cs
    · rw [if_pos m] at hd
      refine attr_of (hb X) (thn ((ha X G).run pins s σ H (fun x H1 => ∃ a C dd fs v, x = .ref a ∧ XfC X.K C ∧ PySem.W.findIn X.K (.ref C) f = some none ∧ H1 a = some (exo a C (some dd)) ∧ H1 dd = some (exd dd fs) ∧ fs.lookup f = some v ∧ Q v H1) I ⟨b, env, F, _, j, e0, fun v k => ?_⟩) fun u s1 ⟨x, H1, I1, rx, a, C, dd, fs, v, ex, T, hno, ea, ed, l, q⟩ => ?_)
      · obtain ⟨a, C, dd, fs, u, rfl, hc, g1, g2, g3, g4⟩ := k.exnF hd
        obtain ⟨t1, t2⟩ := hF.of c m C hc
        exact ⟨a, C, dd, fs, u, rfl, by rw [G.K]; exact t1, by rw [G.K]; exact t2, g1, g2, g3, h u g4⟩
      · subst ex
        obtain rfl : u = Value.ref a := rx
        obtain ⟨t1, ho⟩ := exo_at I1.hok ea
        obtain ⟨mA, hns, hr⟩ := exd_at I1.hok ed
        obtain ⟨od, hoD, hl⟩ := lookIn_ns hns
        obtain ⟨u, hu, ru⟩ := RelO.some_of (v := v) (o := mA f) (by rw [← l]; exact hr f)
        have J : PySem.W.InstAt s1.heap a ({ cls := .ref C, dict := some dd, data := .fields #[.ref t1, .none, .none, .none, .bool false, .none] } : Obj) C (some od) := ⟨ho, rfl, rfl, hoD⟩
        exact PySem.HandSPX.exc_get I1.kIn J T.ga T.gg T.exC (PySem.W.findObj_own T.hdC hno rfl (by rw [hl, hu])) (handed_of ru) ⟨v, H1, I1.tok _, ru, q⟩
    · rw [if_neg m] at hd; cases hd
  · cases hd
/-! ### names whose value itself is known -/
def rA (i : Nat) : Rdr := fun env => match env[i]? with
  | some (some (.al _ d)) => some d
  | _ => none
theorem SJ.lkA {g : Glb} {b : Bs} {H : Hp} {σ : Sg} {env : En} {F : Prs} {i : Nat} {w : V} {d : D} (e : env[i]? = some (some (.al w d))) (j : SJ g b H σ env F) : σ[i]? = some (some w) ∧ Lk g b H σ env F w d := by
  obtain ⟨v, h1, ps, A, B, g1, g2, g3, g4, g5, g6⟩ := j.lk e
  cases g6 with
  | al r => exact ⟨h1, ps, A, B, g1, g2, g3, g4, g5, r⟩
theorem SR_nameA (i : Nat) {x : Str} (hN : Γ.N[i]? = some x) (hv : Vis sc x) (hd : (x == ("__debug__" : Str)) = false := by decide) (hcd : (x == ("__classdict__" : Str)) = false := by decide) : SR Γ sc (.Name x pos) (rA i) := fun X G =>
  PE.imp (pe_var (by rw [G.N]; exact hN) (by rw [G.sc]; exact hv) hd hcd) fun σ H Q ⟨b, env, F, d, j, hd, h⟩ => by
    unfold rA at hd
    split at hd
    · rename_i w d' e
      cases Option.some.inj hd
      obtain ⟨h1, k⟩ := j.lkA e
      exact ⟨w, h1, h w k⟩
    · cases hd
open Classical in
/-- what n tells is the value of the name k: so it is what that is -/
noncomputable def rH (k : Nat) (n : Rdr) : Rdr := fun env => match n env, env[k]? with
  | some (.hole w), some (some (.al w' d)) => if w = w' then some d else none
  | _, _ => none
theorem SR_hole (k : Nat) (ha : SR Γ sc e n) : SR Γ sc e (rH k n) := fun X G => PE.imp (ha X G) fun σ H Q ⟨b, env, F, d, j, hd, h⟩ => by
  unfold rH at hd
  split at hd
  · rename_i w w' d' e1 e2
    by_cases q : w = w'
    · rw [if_pos q] at hd
      subst q
      cases Option.some.inj hd
      refine ⟨b, env, F, _, j, e1, fun v k1 => ?_⟩
      have w1 := k1.vw
      cases w1
      exact h w (j.lkA e2).2
    · rw [if_neg q] at hd; cases hd
  · cases hd
/-- the value itself of such a name -/
def mAl (i : Nat) : M D := fun env => match env[i]? with
  | some (some (.al w _)) => .ok (.hole w) env
  | _ => .bad
theorem E_al (i : Nat) {x : Str} (hN : Γ.N[i]? = some x) (hv : Vis sc x) (hd : (x == ("__debug__" : Str)) = false := by decide) (hcd : (x == ("__classdict__" : Str)) = false := by decide) : SE Γ sc true (.Name x pos) (mAl i) := fun X W G T =>
  PE.imp (pe_var (by rw [G.N]; exact hN) (by rw [G.sc]; exact hv) hd hcd) fun σ H Q ⟨b, env, F, j, h⟩ => by
    unfold mAl at h
    split at h
    · rename_i w d e
      exact ⟨w, (j.lkA e).1, h w H (j.add fun _ => .hole) fun _ => Ext.refl H⟩
    · exact h.elim
/-! ### a call that changes nothing that stands: its arguments may be owned by others -/
def mPure2 (f : List D → CR) (na nb : Rdr) : M D := fun env => match na env, nb env with
  | some x, some y => (match f [frz x, frz y] with
    | .ok r [] => if isAt r = true then .ok r env else .bad
    | _ => .bad)
  | _, _ => .bad
theorem nt_mu0 {o : HO} (h : Mu o) : NT o := fun ps e => by subst e; exact h
theorem Lk.frzd {g : Glb} {b : Bs} {H : Hp} {σ : Sg} {env : En} {F : Prs} {v : V} {d : D} (k : Lk g b H σ env F v d) : Rep g H (· ∈ ([] : List Addr)) v (frz d) [] := by
  obtain ⟨ps, A, B, h1, h2, h3, h4, h5, h6⟩ := k
  exact Rep.freeze (fun a m => nomatch m) (fun a m q => nomatch q) h6
theorem tabs_unl {T : List (Addr × Str)} {H : Hp} {a : Addr} {od : Obj} {u u' : HO} (h : H a = some (.frz od u)) (t : LamX.Tabs T H) : LamX.Tabs T (upd H a u') := fun q hq => by
  obtain ⟨ts, t1, t2, t3⟩ := t q hq
  refine ⟨ts, ?_, t2, fun pos cv hc => ?_⟩
  · rw [upd_ne (fun e => by rw [e, h] at t1; cases t1)]
    exact t1
  · obtain ⟨c, e1, e2⟩ := t3 pos cv hc
    refine ⟨c, e1, ?_⟩
    rw [upd_ne (fun e => by rw [e, h] at e2; cases e2)]
    exact e2
theorem mut_mu {o : HO} (h : Mu o) : Mut (some o) := by
  cases o <;> first | trivial | exact h.elim
/-- dicts that got locked are let go -/
theorem unlockL {X : Cx} {pins : List (Addr × Obj)} {σ : L2.St} {s : Shared} {T : List (Addr × Str)} {H : Hp} (hn : ∀ a u, H a = some u → Mut (some u) → ∀ o' u', X.H_0 a ≠ some (.frz o' u')) : ∀ (A : List Addr) (H' : Hp), Inv X pins σ H' s → LamX.Tabs T H' → (∀ a ∈ A, ∃ o, H a = some o ∧ Mu o) → (∀ a o, NT o → H a = some o → Kd H' a o) →
    ∃ H'', Inv X pins σ H'' s ∧ LamX.Tabs T H'' ∧ (∀ a ∈ A, H'' a = H a) ∧ ∀ a o, NT o → H a = some o → Kd H'' a o
  | [], H', I, t, _, k => ⟨H', I, t, fun a m => (nomatch m), k⟩
  | x :: A, H', I, t, ho, k => by
    obtain ⟨H1, I1, t1, e1, k1⟩ := unlockL hn A H' I t (fun a m => ho a (List.mem_cons_of_mem _ m)) k
    obtain ⟨o, h1, h2⟩ := ho x List.mem_cons_self
    rcases k1 x o (nt_mu0 h2) h1 with q | ⟨⟨es, rfl⟩, ob, q⟩
    · refine ⟨H1, I1, t1, fun a m => ?_, k1⟩
      rcases List.mem_cons.mp m with rfl | m
      · rw [q, h1]
      · exact e1 a m
    · refine ⟨upd H1 x (.dK es), I1.unlock q (hn x _ h1 trivial), tabs_unl q t1, fun a m => ?_, fun a o n h => ?_⟩
      · by_cases e : a = x
        · rw [e, upd_same, h1]
        · rw [upd_ne e]
          rcases List.mem_cons.mp m with rfl | m
          · exact absurd rfl e
          · exact e1 a m
      · by_cases e : a = x
        · subst e
          rw [h1] at h
          cases h
          exact .inl upd_same
        · rcases k1 a o n h with q | ⟨y, ob', q⟩
          · exact .inl (by rw [upd_ne e]; exact q)
          · exact .inr ⟨y, ob', by rw [upd_ne e]; exact q⟩
theorem E_pure2 {x : Str} {e1 e2 : Expr} {pn : Pos} (hF : Fk Γ x [false, false]) (hg : sc.names.lookup x = some .globalImplicit) (h1 : SR Γ sc e1 na) (h2 : SR Γ sc e2 nb) (hdb : (x == ("__debug__" : Str)) = false := by decide)
    (he : ∀ X : Cx, starEach [e1, e2] X.env = (false, eval e1 X.env) :: starEach [e2] X.env := by intro _; rfl) (he2 : ∀ X : Cx, starEach [e2] X.env = (false, eval e2 X.env) :: starEach [] X.env := by intro _; rfl) (hpl : ∀ X : Cx, (backTo pos (starEach [e2] X.env)).any (·.1) = false := by intro _; rfl) :
    SE Γ sc false (.Call (.Name x pn) [e1, e2] [] pos) (mPure2 (Γ.C x) na nb) := fun X W G T => by
  obtain ⟨f, fd, ps, FO, hm, hk, hb, hlm⟩ := hF.ex
  refine ⟨fun pins s σ H Q I h => ?_⟩
  obtain ⟨b, env, F, j, h⟩ := h
  unfold mPure2 at h
  cases q1 : na env with
  | none => rw [q1] at h; exact h.elim
  | some d1 =>
    cases q2 : nb env with
    | none => rw [q1, q2] at h; exact h.elim
    | some d2 =>
      rw [q1, q2] at h
      dsimp only at h
      split at h
      · rename_i r e0
        by_cases ht : isAt r = true
        · rw [if_pos ht] at h
          refine wpAny_mono (Q := EP X pins σ fun v H' => v = vOf r ∧ LamX.Tabs Γ.g.T H' ∧ ∀ a o, NT o → H a = some o → Kd H' a o) ?_ (fun u s' hu => ?_) fun _ _ z => z
          · refine wpAny_Call_Name_kw (ld_glob I (gl_of hg G.sc) (by rw [G.mg]; exact hm) ?_ hdb)
            refine PySem.W.callWith_K (h₀ := X.base) I.ok.mod.kin (by rw [G.K]; exact hk) (thn ((pa_cons (h1 X G) (pa_cons (h2 X G) pa_nil (he2 X)) (he X)).run pos pins s σ H (fun vs H1 => spF Γ.g [false, false] (Γ.C x) vs H1 (fun v H' => v = vOf r ∧ LamX.Tabs Γ.g.T H' ∧ ∀ a o, NT o → H a = some o → Kd H' a o) (fun cls d H' => W cls d σ H')) I ?_) fun us s1 ⟨vs, H1, I1, r, q⟩ => ⟨I1.kIn, ?_⟩) (he X) (hpl X)
            · refine ⟨b, env, F, d1, j, q1, fun v1 k1 => ⟨b, env, F, d2, j, q2, fun v2 k2 => ?_⟩⟩
              refine ⟨rfl, ⟨H, []⟩, [frz d1, frz d2], [], rfl, ?_, ?_⟩
              · have kf := k1.frzd
                obtain ⟨_, _, _, _, _, _, w, _⟩ := k1
                exact ⟨[], RepP.cons (A := []) (B := []) (p := (v1, frz d1)) kf (RepP.cons (A := []) (B := []) (p := (v2, frz d2)) k2.frzd .nil), List.nodup_nil, ⟨w.tab, fun a o _ e => ⟨.inl e, fun m => nomatch m⟩⟩⟩
              · rw [e0]
                refine ⟨rfl, fun v H' j' => ?_⟩
                obtain ⟨A', r', n', w'⟩ := j'
                obtain ⟨B, C, _, g1, _⟩ := r'.inv
                exact ⟨vw_at ht g1.vw, w'.tab, fun a o n e => (w'.lock a o n e).1⟩
            · exact run_fnS (by rw [G.prog, G.w, G.K, G.mg, G.base]; exact FO) G.room (by rw [G.K]; exact hb) T I1 r q
          · obtain ⟨v, H', I', rv, ev, tb, kd⟩ := hu
            subst ev
            obtain ⟨qs, sl, A, rp, nd, wi⟩ := j
            obtain ⟨H2, I2, t2, e2', k2⟩ := unlockL (T := Γ.g.T) (fun a u => I.nofrz) A H' I' tb rp.own kd
            have j2 : SJ Γ.g b H2 σ env F := ⟨qs, sl, A, RepL.lockd (fun a o _ n e => k2 a o n e) e2' rp, nd, ⟨t2, fun a o n e => ⟨by
              rcases (wi.lock a o n e).1 with z | ⟨y, ob, z⟩
              · exact k2 a o n z
              · exact .inr ⟨y, ob, (k2 a _ nt_frz z).at_ fun es q => nomatch q⟩, (wi.lock a o n e).2⟩⟩⟩
            exact ⟨_, H2, I2, rv, h _ H2 (j2.add fun Z => rep_at ht) fun z => by cases z⟩
        · rw [if_neg ht] at h; exact h.elim
      · exact h.elim
/-! ### the keys of a dict walked -/
def mKeys (ma : M D) : M (List D) := fun env => (ma env).bind fun d e => match frz d with
  | .dct _ kvs => .ok (kvs.map fun kv => keyD kv.1) e
  | _ => .bad
abbrev iKeysD (te : TE) : TI := fun σ H R => te σ H fun x H1 => ∃ a es, x = .ref a ∧ ((∃ o, H1 a = some (.frz o (.dK es)) ∧ R (Itk a o es) H1) ∨ (H1 a = some (.dK es) ∧ ∀ od, R (Itk a od es) (upd H1 a (.frz od (.dK es)))))
theorem pi_keysD {X : Cx} {tg e : Expr} {te : TE} (he : PE X e te) : PI X tg e (iKeysD te) := by
  refine ⟨fun pins s σ H R I h => ?_⟩
  refine thn (he.run pins s σ H _ I h) fun u s1 ⟨x, H1, I1, rx, d, kvs, ex, q⟩ => ?_
  subst ex
  obtain rfl : u = Value.ref d := rx
  rcases q with ⟨o, hd, q⟩ | ⟨hd, q⟩
  · obtain ⟨hs, hgd, hx, es, ep, vs, hdt, hsz, kv, hm⟩ := I1.frzK hd
    refine iter_keys hs hgd hx hdt (pi_one (tk := s1.toks) I1 _ (turn_keys _ hdt) ⟨_, Heap.get?_push_size _ rfl, rfl, ?_⟩ q)
    rw [hsz] <;> rfl
  · obtain ⟨od, I2⟩ := I1.lock hd trivial
    obtain ⟨hs, hgd, hx, es, ep, vs, hdt, hsz, kv, hm⟩ := I2.frzK upd_same
    refine iter_keys hs hgd hx hdt (pi_one (tk := s1.toks) I2 _ (turn_keys _ hdt) ⟨_, Heap.get?_push_size _ rfl, rfl, ?_⟩ (q od))
    rw [hsz] <;> rfl
theorem SJ.frd_at {g : Glb} {b : Bs} {H : Hp} {σ : Sg} {env : En} {F : Prs} {a : Addr} {o : Obj} {es : List (Key × V)} (j : SJ g b H σ env ((.ref a, .frd o es) :: F)) : H a = some (.frz o (.dK es)) := by
  obtain ⟨ps, s, j⟩ := j
  obtain ⟨A, r, n, wi⟩ := j.perm List.perm_middle
  obtain ⟨B, C, rfl, h1, h2⟩ := r.inv
  have h1' : Rep g H _ (.ref a) (.frd o es) B := h1
  cases h1' with
  | frd h _ => exact h
theorem rep_key {g : Glb} {H : Hp} {Z : Addr → Prop} (k : Key) : Rep g H Z (kV k) (keyD k) [] := by
  cases k with
  | inl i => exact .int i
  | inr s => exact .str s
theorem Itk_of {g : Glb} {a : Addr} {o : Obj} {es : List (Key × V)} {kvs : List (Key × D)} (hk : es.map (·.1) = kvs.map (·.1)) : ItOf g (Itk a o es) [(.ref a, .frd o es)] (kvs.map fun kv => keyD kv.1) where
  go := fun b H σ env F i j l => by
    have hl : es.length = kvs.length := by simpa using congrArg List.length hk
    exact ⟨SJ.frd_at (F := F) j, by rw [hl]; simpa using l⟩
  yld := fun b H σ env F i x H' j l y => by
    obtain ⟨rfl, k, v, h1, rfl⟩ := y
    have h2 : (es.map (·.1))[i]? = some k := by rw [List.getElem?_map, h1]; rfl
    rw [hk, List.getElem?_map] at h2
    obtain ⟨kv, h3, h4⟩ := Option.map_eq_some_iff.mp h2
    refine ⟨keyD k, ?_, j.add fun _ => rep_key k, Ext.refl _⟩
    rw [List.getElem?_map, h3]
    show some (keyD kv.1) = some (keyD k)
    rw [h4]
  stop := fun b H σ env F i j l => by
    have hl : es.length = kvs.length := by simpa using congrArg List.length hk
    exact ⟨SJ.frd_at (F := F) j, by rw [hl]; simpa using l⟩
theorem SI_keys {tg : Expr} {ma : M D} (h : SE Γ sc p e ma) : SI Γ sc false tg e (mKeys ma) := fun X W G T => PI.imp (pi_keysD (h X W G T)) fun σ H R ⟨b, env, F, j, h⟩ =>
  ⟨b, env, F, j, by
   unfold mKeys at h
   cases q0 : ma env with
   | bad => rw [q0] at h; exact h.elim
   | exc c fs e => rw [q0] at h; exact h
   | ok d e =>
    rw [q0] at h
    intro v H' j x
    replace h : PoI Γ.g b false W σ H F R (match frz d with
      | .dct _ kvs => .ok (kvs.map fun kv => keyD kv.1) e
      | _ => .bad) := h
    have j1 := j.freeze
    have ff := isFrz_frz d
    generalize frz d = d' at h j1 ff
    cases d' with
    | dct o kvs =>
      obtain ⟨ps, sl, j2⟩ := j1
      obtain ⟨A, r, n, wi⟩ := j2.perm List.perm_middle
      obtain ⟨B, C, rfl, h1, h2⟩ := r.inv
      have h1' : Rep Γ.g H' _ v (.dct o kvs) B := h1
      cases h1' with
      | @dctF a es _ hr hz hk hl =>
        refine ⟨a, es, rfl, ?_⟩
        rcases hr with hr | ⟨ob, hr⟩
        · refine .inr ⟨hr, fun od => ?_⟩
          have kd : ∀ x o, NT o → H' x = some o → Kd (upd H' a (.frz od (.dK es))) x o := fun x o nt hx => by
            by_cases e : x = a
            · subst e
              rw [hr] at hx
              cases hx
              exact .inr ⟨⟨es, rfl⟩, od, upd_same⟩
            · exact .inl (by rw [upd_ne e]; exact hx)
          have r3 : RepP Γ.g (upd H' a (.frz od (.dK es))) (· ∈ C) (ps ++ F) C := RepL.lockd (fun x o _ nt hx => kd x o nt hx) (fun x m => upd_ne fun e => hz (by rw [← e]; exact m)) (RepL.mono (fun x m => m) h2)
          refine h (Itk a od es) [(.ref a, .frd od es)] _ (Itk_of hk) ⟨ps, sl, ?_⟩ fun z => by cases z
          refine JJ.perm (ps := (.ref a, .frd od es) :: (ps ++ F)) List.perm_middle.symm ⟨C, RepP.cons (A := []) (p := (.ref a, .frd od es)) (.frd upd_same hz) r3, n, ⟨?_, fun x o nt hx => ⟨?_, (wi.lock x o nt hx).2⟩⟩⟩
          · intro q hq
            obtain ⟨ts, t1, t2, t3⟩ := wi.tab q hq
            refine ⟨ts, ?_, t2, fun pos cv hc => ?_⟩
            · rw [upd_ne (fun e => by rw [e, hr] at t1; cases t1)]
              exact t1
            · obtain ⟨c, e1, e2⟩ := t3 pos cv hc
              refine ⟨c, e1, ?_⟩
              rw [upd_ne (fun e => by rw [e, hr] at e2; cases e2)]
              exact e2
          · rcases (wi.lock x o nt hx).1 with q | ⟨y, ob, q⟩
            · exact kd x o nt q
            · exact .inr ⟨y, ob, (kd x _ nt_frz q).at_ fun es z => nomatch z⟩
        · refine .inl ⟨ob, hr, h (Itk a ob es) [(.ref a, .frd ob es)] H' (Itk_of hk) ⟨ps, sl, ?_⟩ fun z => by cases z⟩
          exact JJ.perm (ps := (.ref a, .frd ob es) :: (ps ++ F)) List.perm_middle.symm ⟨C, RepP.cons (A := []) (p := (.ref a, .frd ob es)) (.frd hr hz) h2, n, wi⟩
      | dctO hr hk hl => cases ff
    | _ => exact h.elim⟩
end
end TL
end

-- text TM6
section
set_option Elab.async false
set_option linter.all false
set_option maxRecDepth 100000
set_option maxHeartbeats 4000000
namespace TL
open PySem PySem.Spec PyProof.Rows L2

section
variable {g : Glb} {b : Bs} {H H' : Hp} {ps : Prs} {σ : Sg} {env : En} {F : Prs} {v : V} {d : D} {i : Nat}
theorem SJ.toAl (j : SJ g b H σ env ((v, d) :: F)) : SJ g b H σ env ((v, .al v d) :: F) := j.on fun ps j => by
  obtain ⟨A, r, n, w⟩ := (show JJ g b H ((v, d) :: (F ++ ps)) from j)
  obtain ⟨B, C, rfl, h1, h2⟩ := r.inv
  exact ⟨B ++ C, RepP.cons (p := (v, .al v d)) (.al h1) h2, n, w⟩
theorem SJ.unAl {w : V} (j : SJ g b H σ env ((v, .al w d) :: F)) : v = w ∧ SJ g b H σ env ((v, d) :: F) := by
  have e : v = w := by
    obtain ⟨ps, s, j⟩ := j
    obtain ⟨A, r, n, wi⟩ := j.perm List.perm_middle
    obtain ⟨B, C, rfl, h1, h2⟩ := r.inv
    have h1' : Rep g H _ v (.al w d) B := h1
    cases h1'
    rfl
  subst e
  refine ⟨rfl, j.on fun ps j => ?_⟩
  obtain ⟨A, r, n, w⟩ := (show JJ g b H ((v, .al v d) :: (F ++ ps)) from j)
  obtain ⟨B, C, rfl, h1, h2⟩ := r.inv
  cases h1 with
  | al h1 => exact ⟨B ++ C, RepP.cons (p := (v, d)) h1 h2, n, w⟩
end
open Classical in
/-- the value of the name i gets known -/
noncomputable def sLab (i : Nat) (m : MS) : MS := fun env => match env[i]? with
  | some (some d) => if h : ∃ r, ∀ v, m (env.set i (some (.al v d))) = r then Classical.choose h else .bad
  | _ => .bad
open Classical in
theorem sLab_eq {i : Nat} {m : MS} {env : En} {d : D} {r : RS} (e : env[i]? = some (some d)) (h : ∀ v, m (env.set i (some (.al v d))) = r) : sLab i m env = r := by
  unfold sLab
  rw [e]
  have hx : ∃ r, ∀ v, m (env.set i (some (.al v d))) = r := ⟨r, h⟩
  dsimp only
  rw [dif_pos hx]
  exact (Classical.choose_spec hx .non).symm.trans (h .non)
/-- names are let go at the end -/
def sForget (is : List Nat) (m : MS) : MS := fun env => match m env with
  | .nx e => .nx (is.foldl (fun e i => e.set i none) e)
  | r => r
def alBack (i : Nat) (v : V) : RS → RS
  | .nx e => match e[i]? with
    | some (some d) => .nx (e.set i (some (.al v d)))
    | _ => .bad
  | .rt r e => match e[i]? with
    | some (some d) => .rt r (e.set i (some (.al v d)))
    | _ => .bad
  | _ => .bad
/-- a statement about a lent name whose value is known -/
def sAl (i : Nat) (m : MS) : MS := fun env => match env[i]? with
  | some (some (.al v d)) => alBack i v (m (env.set i (some d)))
  | _ => .bad
section
variable {Γ : Cs} {sc : Scope} {B : List Nat} {st : Stmt} {sts : List Stmt} {m : MS} {i : Nat}
theorem SSs_lab (h : SSs Γ sc B sts m) (hi : i ∉ B := by decide) : SSs Γ sc B sts (sLab i m) := fun X W G T hf => PSs.imp (h X W G T hf) fun D σ H ⟨φ, hB, env, j, hp, h⟩ => by
  unfold sLab at h
  split at h
  · rename_i d e
    split at h
    · rename_i hx
      obtain ⟨v, h1, j1⟩ := j.get e
      have j2 := SJ.put (F := φ.F) (set_none_get e) h1 j1.toAl
      rw [set_none_set] at j2
      refine ⟨φ, hB, _, j2, hp, ?_⟩
      rw [Classical.choose_spec hx v]
      exact h
    · exact h.elim
  · exact h.elim
theorem SJ.forgetL {g : Glb} {b : Bs} {H : Hp} {σ : Sg} {F : Prs} : ∀ (is : List Nat) {env : En}, SJ g b H σ env F → SJ g b H σ (is.foldl (fun e i => e.set i none) env) F
  | [], _, j => j
  | i :: is, _, j => SJ.forgetL is (j.forget i)
theorem SSs_forget {is : List Nat} (h : SSs Γ sc B sts m) : SSs Γ sc B sts (sForget is m) := fun X W G T hf => PSs.imp (h X W G T hf) fun D σ H ⟨φ, hB, env, j, hp, h⟩ => by
  refine ⟨φ, hB, env, j, hp, ?_⟩
  unfold sForget at h
  cases q : m env with
  | nx e =>
    rw [q] at h
    exact fun σ' H' j' hp' => h σ' H' (SJ.forgetL is j') hp'
  | rt d e => rw [q] at h; exact h
  | bk e => rw [q] at h; exact h
  | ct e => rw [q] at h; exact h
  | exc c fs e => rw [q] at h; exact h
  | bad => rw [q] at h; exact h
theorem SS_al (h : SS Γ sc B st m) (hi : i ∈ B := by decide) : SS Γ sc B st (sAl i m) := fun X W G T hf => PS.imp (h X W G T hf) fun D σ H ⟨φ, hB, env, j, hp, h⟩ => by
  unfold sAl at h
  split at h
  · rename_i w d e
    obtain ⟨v, h1, j1⟩ := j.get e
    obtain ⟨rfl, j2⟩ := j1.unAl
    have j3 := SJ.put (F := φ.F) (set_none_get e) h1 j2
    rw [set_none_set] at j3
    refine ⟨φ, hB, _, j3, hp, ?_⟩
    have hm : i ∈ φ.pv.map (·.1) := by rw [hB]; exact hi
    obtain ⟨⟨i', v0⟩, m0, rfl⟩ := List.mem_map.mp hm
    have hv0 : v = v0 := by
      have := hp _ m0
      dsimp only at this h1
      rw [h1] at this
      exact Option.some.inj (Option.some.inj this)
    subst hv0
    have back : ∀ {σ' : Sg} {H' : Hp} {e' : En} {d' : TL.D} {F' : Prs}, e'[i']? = some (some d') → Pins φ.pv σ' → SJ Γ.g φ.b H' σ' e' F' → SJ Γ.g φ.b H' σ' (e'.set i' (some (.al v d'))) F' := fun {σ' H' e' d' F'} he hp' j' => by
      obtain ⟨u, g1, g2⟩ := j'.get he
      have hu : u = v := by
        have := hp' _ m0
        dsimp only at this g1
        rw [g1] at this
        exact Option.some.inj (Option.some.inj this)
      subst hu
      have g3 := SJ.put (F := F') (set_none_get he) g1 g2.toAl
      rw [set_none_set] at g3
      exact g3
    dsimp only at h ⊢
    cases q : m (env.set i' (some d)) with
    | nx e' =>
      rw [q] at h
      unfold alBack at h
      dsimp only at h
      split at h
      · rename_i d' he
        exact fun σ' H' j' hp' => h σ' H' (back he hp' j') hp'
      · exact h.elim
    | rt r e' =>
      rw [q] at h
      unfold alBack at h
      dsimp only at h
      split at h
      · rename_i d' he
        exact fun v' σ' H' j' hp' => h v' σ' H' (back he hp' j') hp'
      · exact h.elim
    | bk e => rw [q] at h; exact h.elim
    | ct e => rw [q] at h; exact h.elim
    | exc c fs e => rw [q] at h; exact h.elim
    | bad => rw [q] at h; exact h.elim
  · exact h.elim
end
end TL
end

-- text TM7
section
set_option Elab.async false
set_option linter.all false
set_option maxRecDepth 100000
set_option maxHeartbeats 4000000
namespace TL
open PySem PySem.Spec PyProof.Rows L2
section
variable {Γ : Cs} {sc : Scope} {p : Bool} {e e2 : Expr} {ma : M D} {ms : M (List D)} {pos pn : Pos}
theorem b1_str {g : Glb} : B1 g strD (fun xs H Q => (∃ i, xs = [.int i] ∧ i.natAbs.log2 < 1920 ∧ Q (.str (toString i)) H) ∨ ∃ s, xs = [.str s] ∧ Q (.str s) H) := fun H x dx dz Q w e q => by
  cases w <;> try (cases e; done)
  · rename_i i
    have e' : (if i.natAbs.log2 < 1920 then some (D.str (toString i)) else none) = some dz := e
    by_cases h : i.natAbs.log2 < 1920
    · rw [if_pos h] at e'
      cases Option.some.inj e'
      exact .inl ⟨i, rfl, h, q _ fun _ _ => .str _⟩
    · rw [if_neg h] at e'; cases e'
  · rename_i s
    cases Option.some.inj e
    exact .inr ⟨s, rfl, q _ fun _ _ => .str _⟩
theorem V_str (hB : Blt Γ sc "str" (.type "str")) (ha : SV Γ sc p e ma) (he : ∀ X : Cx, starEach [e] X.env = (false, eval e X.env) :: starEach [] X.env := by intro _; rfl) : SE Γ sc p (.Call (.Name "str" pn) [e] [] pos) (mV1 strD ma) :=
  V_t1 hB (fun X G => ⟨_, call_str_int.or SkE.call_str_str, b1_str⟩) ha he
def fMax2 : List D → Option D
  | [.int i, .int j] => some (.int (if j > i then j else i))
  | _ => none
theorem b_max2 {g : Glb} : BOp g fMax2 (fun xs H Q => ∃ i j, xs = [.int i, .int j] ∧ Q (.int (if j > i then j else i)) H) := fun b H σ env F vs ds dz Q l j e q => by
  unfold fMax2 at e
  split at e
  · rename_i i k
    match vs, l with
    | [u, v], _ =>
      have j' : SJ g b H σ env ((u, .int i) :: (v, .int k) :: F) := j
      have w1 := j'.vwF
      cases w1
      have w2 := j'.drop.vwF
      cases w2
      cases Option.some.inj e
      exact ⟨i, k, rfl, q _ H (j'.drop.drop.add fun _ => .int _) (Ext.refl H)⟩
  · cases e
theorem E_max2 (hB : Blt Γ sc "max" (.builtin "max")) (ha : SA Γ sc p [e, e2] ms) (he : ∀ X : Cx, starEach [e, e2] X.env = (false, eval e X.env) :: starEach [e2] X.env := by intro _; rfl) (hpl : ∀ X : Cx, (backTo pos (starEach [e2] X.env)).any (·.1) = false := by intro _; rfl) : SE Γ sc p (.Call (.Name "max" pn) [e, e2] [] pos) (mB fMax2 ms) :=
  E_b hB (fun X G => ⟨_, call_max2 G.calm, b_max2⟩) ha he hpl
theorem ExcV.N {c : Str} {ys N : List Str} (h : ExcV Γ c ys) : ExcV { Γ with N := N } c ys := ⟨h.ex, h.rm⟩
theorem ExcN.N {c : Str} {N : List Str} (h : ExcN Γ c) : ExcN { Γ with N := N } c := ⟨h.ex⟩
theorem XaF.N {cs N : List Str} {f : Str} (h : XaF Γ cs f) : XaF { Γ with N := N } cs f := ⟨h.of⟩
end
end TL
end

-- text TM8
section
set_option Elab.async false
set_option linter.all false
set_option maxRecDepth 100000
set_option maxHeartbeats 4000000
namespace TL
open PySem PySem.Spec PyProof.Rows L2

/-! ### facts of the head about exceptions -/
/-- is an error of the class c one of k? -/
def isTab (c k : Str) : Bool := decide (c = k) || decide (k = ("RunError" : Str)) || decide (k = ("ValueError" : Str))
def excCB (K : PySem.W.Frag) (D : Addr) : Bool := decide (PySem.W.findIn K (.ref D) "__getattribute__" = some (some (.builtin "BaseException.__getattribute__"))) && (decide (PySem.W.findIn K (.ref D) "__getattr__" = some none) && (decide (PySem.W.subIn K (.ref D) (.type "BaseException") = some true) &&
  (PySem.W.hasDictIn K D && (decide (PySem.W.findIn K (.ref D) "__class__" = some (some (.builtin "object.__class__"))) && (decide (PySem.W.specialIn K (.builtin "object.__class__") "__get__" = some (some (.builtin "getset_descriptor.__get__"))) && (decide (PySem.W.takesIn K (.builtin "object.__class__") = some true) && decide (PySem.W.mroIn K D (.type "object") = some true)))))))
theorem excC_ok {K : PySem.W.Frag} {D : Addr} (h : excCB K D = true) : ExcC K D := by
  obtain ⟨h1, h⟩ := He.ba h
  obtain ⟨h2, h⟩ := He.ba h
  obtain ⟨h3, h⟩ := He.ba h
  obtain ⟨h4, h⟩ := He.ba h
  obtain ⟨h5, h⟩ := He.ba h
  obtain ⟨h6, h⟩ := He.ba h
  obtain ⟨h7, h8⟩ := He.ba h
  exact ⟨of_decide_eq_true h1, of_decide_eq_true h2, of_decide_eq_true h3, h4, of_decide_eq_true h5, of_decide_eq_true h6, of_decide_eq_true h7, of_decide_eq_true h8⟩
def mroX (K : PySem.W.Frag) (c : Str) : List Value := match decide (c = ("RunError" : Str)) with
  | true => [.ref (He.ga K "RunError"), .type "ValueError", .type "Exception", .type "BaseException", .type "object"]
  | false => [.ref (He.ga K c), .ref (He.ga K "RunError"), .type "ValueError", .type "Exception", .type "BaseException", .type "object"]
def mroB (K : PySem.W.Frag) (c : Str) : Bool := (match PySem.W.clsIn K (He.ga K c) with
  | some cd => decide (cd.name = c) && decide (cd.mro = mroX K c)
  | none => false) && decide (PySem.W.typeIn K (.ref (He.ga K c)) = some (.type "type"))
structure MroF (K : PySem.W.Frag) (c : Str) : Prop where
  ex : ∃ cd, PySem.W.clsIn K (He.ga K c) = some cd ∧ cd.name = c ∧ cd.mro = mroX K c
  ty : PySem.W.typeIn K (.ref (He.ga K c)) = some (.type "type")
theorem mroB_ok {K : PySem.W.Frag} {c : Str} (h : mroB K c = true) : MroF K c := by
  obtain ⟨h1, h2⟩ := He.ba h
  cases q : PySem.W.clsIn K (He.ga K c) with
  | none => rw [q] at h1; cases h1
  | some cd =>
    rw [q] at h1
    obtain ⟨h3, h4⟩ := He.ba h1
    exact ⟨⟨cd, q, of_decide_eq_true h3, of_decide_eq_true h4⟩, of_decide_eq_true h2⟩
theorem MroF.inj {K : PySem.W.Frag} {c k : Str} (h : MroF K c) (h2 : MroF K k) (e : He.ga K c = He.ga K k) : c = k := by
  obtain ⟨cd, a, b, _⟩ := h.ex
  obtain ⟨cd2, a2, b2, _⟩ := h2.ex
  rw [e, a2] at a
  cases a
  rw [← b, ← b2]
theorem mroX_ne {K : PySem.W.Frag} {c : Str} : (mroX K c).isEmpty = false := by
  unfold mroX
  cases decide (c = ("RunError" : Str)) <;> rfl
theorem MroF.sub {K : PySem.W.Frag} {c : Str} (h : MroF K c) (v : Value) : PySem.W.subIn K (.ref (He.ga K c)) v = some ((mroX K c).contains v) := by
  obtain ⟨cd, a, b, e⟩ := h.ex
  show PySem.W.mroIn K (He.ga K c) v = _
  unfold PySem.W.mroIn
  rw [a, Option.bind_some, e, if_neg (by rw [mroX_ne]; decide)]
theorem refV_beq {a b : Addr} : ((Value.ref a : Value) == Value.ref b) = decide (a = b) := by
  by_cases e : a = b
  · subst e
    rw [decide_eq_true rfl]
    exact beq_self_eq_true _
  · rw [decide_eq_false e]
    exact beq_eq_false_iff_ne.mpr fun q => e (Value.ref.inj q)
theorem isF_by {Γ : Cs} {cs : List Str} (hcls : ∀ c ∈ cs, Γ.g.cls c = some (He.ga Γ.g.K c)) (hmg : ∀ k ∈ cs, Γ.mg k = some (.ref (He.ga Γ.g.K k))) (hR : ("RunError" : Str) ∈ cs) (hV : ∀ k ∈ ([("ValueError" : Str), "KeyError", "IndexError", "TypeError"] : List Str), k ∉ cs) (hM : ∀ c ∈ cs, MroF Γ.g.K c) (hE : ∀ c ∈ cs, ExcC Γ.g.K (He.ga Γ.g.K c)) : IsF Γ cs isTab where
  inst := fun c m C hc => by
    rw [hcls c m] at hc
    cases hc
    exact hE c m
  own := fun c m k D hk C hc hin => by
    have mk : k ∈ cs := (List.mem_append.mp hin).elim id fun q => by rw [List.mem_singleton.mp q]; exact hR
    rw [hcls c m] at hc
    cases hc
    rw [hmg k mk] at hk
    cases hk
    unfold PySem.W.kitOne
    rw [refV_beq]
    by_cases e : c = k
    · subst e
      rw [if_pos (decide_eq_true rfl)]
      unfold isTab
      rw [decide_eq_true rfl]
      rfl
    · have ne : He.ga Γ.g.K c ≠ He.ga Γ.g.K k := fun q => e ((hM c m).inj (hM k mk) q)
      rw [if_neg (by rw [decide_eq_false ne]; decide)]
      obtain ⟨cd, a, _, _⟩ := (hM k mk).ex
      show (if ((PySem.W.clsIn Γ.g.K (He.ga Γ.g.K k)).isSome && PySem.W.typeIn Γ.g.K (.ref (He.ga Γ.g.K k)) == some (.type "type")) = true then PySem.W.subIn Γ.g.K (.ref (He.ga Γ.g.K c)) (.ref (He.ga Γ.g.K k)) else none) = some (isTab c k)
      rw [a, (hM k mk).ty, if_pos (by rfl), (hM c m).sub]
      congr 1
      unfold isTab
      rw [decide_eq_false e, Bool.false_or]
      have hv : decide (k = ("ValueError" : Str)) = false ∨ k = ("ValueError" : Str) := by
        by_cases q : k = ("ValueError" : Str)
        · exact .inr q
        · exact .inl (decide_eq_false q)
      have t1 : ∀ s : String, ((Value.ref (He.ga Γ.g.K k) : Value) == .type s) = false := fun s => beq_eq_false_iff_ne.mpr fun q => nomatch q
      by_cases hr : k = ("RunError" : Str)
      · rw [decide_eq_true hr, Bool.true_or]
        have hc1 : c ≠ ("RunError" : Str) := fun q => e (q.trans hr.symm)
        unfold mroX
        rw [decide_eq_false hc1]
        simp only [List.contains_cons, hr, refV_beq, decide_true, Bool.true_or, Bool.or_true]
      · have hrr : He.ga Γ.g.K k ≠ He.ga Γ.g.K "RunError" := fun q => hr ((hM k mk).inj (hM _ hR) q)
        have hf : (mroX Γ.g.K c).contains (Value.ref (He.ga Γ.g.K k)) = false := by
          unfold mroX
          cases decide (c = ("RunError" : Str)) with
          | true => simp only [List.contains_cons, List.contains_nil, refV_beq, t1, decide_eq_false hrr, Bool.false_or]
          | false => simp only [List.contains_cons, List.contains_nil, refV_beq, t1, decide_eq_false hrr, decide_eq_false (Ne.symm ne), Bool.false_or]
        rw [hf, decide_eq_false hr, Bool.false_or]
        rcases hv with hv | hv
        · rw [hv]
        · exact absurd (hv ▸ mk) (hV _ List.mem_cons_self)
  ty := fun c m C hc k t hb hin => by
    rw [hcls c m] at hc
    cases hc
    have nc : c ≠ k := fun q => hV k hin (q ▸ m)
    have nr : k ≠ ("RunError" : Str) := fun q => hV k hin (q ▸ hR)
    have nb : ∀ s : String, ((Value.ref (He.ga Γ.g.K c) : Value) == .type s) = false := fun s => beq_eq_false_iff_ne.mpr fun q => nomatch q
    have nb2 : ∀ s : String, ∀ a : Addr, ((Value.type s : Value) == .ref a) = false := fun s a => beq_eq_false_iff_ne.mpr fun q => nomatch q
    have key : ∀ s : String, PySem.W.kitMeta s = true → PySem.W.kitOne Γ.g.K (.ref (He.ga Γ.g.K c)) (.type s) = some (([.type "ValueError", .type "Exception", .type "BaseException", .type "object"] : List Value).contains (.type s)) := fun s hs => by
      unfold PySem.W.kitOne
      rw [nb s, if_neg (by decide)]
      show (if PySem.W.kitMeta s = true then PySem.W.subIn Γ.g.K (.ref (He.ga Γ.g.K c)) (.type s) else none) = _
      rw [if_pos hs, (hM c m).sub]
      congr 1
      unfold mroX
      cases decide (c = ("RunError" : Str)) with
      | true => simp only [List.contains_cons, nb2, Bool.false_or]
      | false => simp only [List.contains_cons, nb2, Bool.false_or]
    have it : isTab c k = decide (k = ("ValueError" : Str)) := by
      unfold isTab
      rw [decide_eq_false nc, decide_eq_false nr, Bool.false_or, Bool.false_or]
    rw [it]
    simp only [List.mem_cons, List.not_mem_nil, or_false] at hin
    rcases hin with rfl | rfl | rfl | rfl
    · have : t = "ValueError" := by
        have h2 : bootBuiltins ("ValueError" : Str) = some (.type "ValueError") := by rfl
        rw [h2] at hb
        cases hb
        rfl
      rw [this, key _ (by decide +kernel)]
      decide +kernel
    · have : t = "KeyError" := by
        have h2 : bootBuiltins ("KeyError" : Str) = some (.type "KeyError") := by rfl
        rw [h2] at hb
        cases hb
        rfl
      rw [this, key _ (by decide +kernel)]
      decide +kernel
    · have : t = "IndexError" := by
        have h2 : bootBuiltins ("IndexError" : Str) = some (.type "IndexError") := by rfl
        rw [h2] at hb
        cases hb
        rfl
      rw [this, key _ (by decide +kernel)]
      decide +kernel
    · have : t = "TypeError" := by
        have h2 : bootBuiltins ("TypeError" : Str) = some (.type "TypeError") := by rfl
        rw [h2] at hb
        cases hb
        rfl
      rw [this, key _ (by decide +kernel)]
      decide +kernel
/-! how an exception is made -/
def mkB (K : PySem.W.Frag) (c : Str) (ys : List Str) : Bool := oexB K (He.ga K c) && (decide (PySem.W.findIn K (.ref (He.ga K c)) "__init__" = some (some (.ref (He.ma K (He.ga K c) "__init__")))) && (decide (PySem.W.typeIn K (.ref (He.ma K (He.ga K c) "__init__")) = some (.type "function")) &&
  ((ys.all fun f => decide (PySem.W.findIn K (.ref (He.ga K c)) f = some none)) && xfB K (He.ga K c))))
structure MkF (K : PySem.W.Frag) (c : Str) (ys : List Str) : Prop where
  oex : OexC K (He.ga K c)
  ini : PySem.W.findIn K (.ref (He.ga K c)) "__init__" = some (some (.ref (He.ma K (He.ga K c) "__init__")))
  ty : PySem.W.typeIn K (.ref (He.ma K (He.ga K c) "__init__")) = some (.type "function")
  no : ∀ f ∈ ys, PySem.W.findIn K (.ref (He.ga K c)) f = some none
  xf : XfC K (He.ga K c)
theorem mkB_ok {K : PySem.W.Frag} {c : Str} {ys : List Str} (h : mkB K c ys = true) : MkF K c ys := by
  obtain ⟨h1, h⟩ := He.ba h
  obtain ⟨h2, h⟩ := He.ba h
  obtain ⟨h3, h⟩ := He.ba h
  obtain ⟨h4, h5⟩ := He.ba h
  exact ⟨oexB_ok h1, of_decide_eq_true h2, of_decide_eq_true h3, fun f m => of_decide_eq_true (List.all_eq_true.mp h4 f m), xfB_ok h5⟩
theorem bind_by {K : PySem.W.Frag} {x qual : Str} {params : Arguments} {body : List Stmt} {scope : Scope} {f : Addr} {fd : FuncData} (F : FunD K x qual params body scope [] [] f fd) {args : Args} {bs : List (Str × Value)}
    (h : ∀ (kV doc pm : Value) (an : Option Addr) (cdv ct : Value), bindArgs (PySem.W.fnOf x qual params body scope .none kV doc pm an cdv ct) args = pure bs) (s : Shared) : BindsTo s fd args bs := by
  obtain ⟨oc, od, dV, kV, doc, pm, an, cdv, ct, osl, e, l, c, hd, _⟩ := F.ex
  rcases hd with ⟨_, e2⟩ | ⟨e2, _⟩
  · subst e2
    subst e
    exact .of_eq (h kV doc pm an cdv ct)
  · exact absurd rfl e2
theorem init2_ok {P : Program} {w : World} {K : PySem.W.Frag} {mg : Str → Option Value} {base : Heap} {q f1 f2 y1 y2 : Str} {st : Stmt} {fI C : Addr} {fd : FuncData} {p1 p2 p3 pos p1' p2' p3' pos' : Pos} (F : Fun K "__init__" q st fI fd) (S : FnScope ["self", y1, y2] ["self", y1, y2] (defScope st))
    (hb : defBody st = [.Assign [.Attribute (.Name "self" p1) f1 p2] (.Name y1 p3) pos, .Assign [.Attribute (.Name "self" p1') f2 p2'] (.Name y2 p3') pos'])
    (v0 : Vis (defScope st) "self") (v1 : Vis (defScope st) y1) (v2 : Vis (defScope st) y2) (hd1 : (y1 == ("__debug__" : Str)) = false) (hc1 : (y1 == ("__classdict__" : Str)) = false) (hd2 : (y2 == ("__debug__" : Str)) = false) (hc2 : (y2 == ("__classdict__" : Str)) = false) (T : OexC K C) (hno1 : PySem.W.findIn K (.ref C) f1 = some none) (hno2 : PySem.W.findIn K (.ref C) f2 = some none) :
    FnOk P w K mg base (L2.CX P w) 1 fI fd ["self", y1, y2] (spI C [f1, f2]) :=
  L2.Fun.okX F S (fun vs H Q E ⟨a, ws, e, l, _⟩ => by rw [e, List.length_cons, l]; rfl) fun cdv A outer s H vs Q E hr ⟨a, ws, e, l, h1, h2⟩ => by
    subst e
    match ws, l with
    | [u1, u2], _ =>
      rw [hb]
      refine ⟨_, pss_cons (ps_ost (pe_var (i := 0) rfl v0 rfl rfl) (pe_var (i := 1) rfl v1 hd1 hc1)) (pss_one (ps_ost (pe_var (i := 0) rfl v0 rfl rfl) (pe_var (i := 2) rfl v2 hd2 hc2))), ?_⟩
      refine ⟨u1, rfl, .ref a, rfl, a, C, rfl, T, hno1, .inl ⟨h1, fun dx n ne => ?_⟩⟩
      refine ⟨u2, rfl, .ref a, rfl, a, C, rfl, T, hno2, .inr ⟨dx, [(f1, u1)], upd_same, by rw [upd_ne ne, upd_same], (show 1 ≤ 900 by decide), ?_⟩⟩
      refine h2 dx _ n ne ⟨upd_same, by rw [upd_ne (Ne.symm ne), upd_same], fun b ha hd => by rw [upd_ne hd, upd_ne ha, upd_ne hd]⟩
theorem spI_one {C : Addr} {f : Str} {vs : List V} {H : Hp} {Q : VK} {E : XK} (h : spI C [f] vs H Q E) : spInit C f vs H Q E := by
  obtain ⟨a, ws, rfl, l, h1, h2⟩ := h
  match ws, l with
  | [v], _ => exact ⟨a, v, rfl, h1, fun d hd ne => h2 d _ hd ne ⟨by rw [upd_ne ne, upd_same] <;> rfl, upd_same, fun b ha hb => by rw [upd_ne ha, upd_ne hb]⟩⟩
theorem excV1_by {Γ : Cs} {c y q : Str} {st : Stmt} {fd : FuncData} {p1 p2 p3 pos : Pos} (hm : Γ.mg c = some (.ref (He.ga Γ.g.K c))) (hc : Γ.g.cls c = some (He.ga Γ.g.K c)) (hk : 2 ≤ Γ.k) (M : MkF Γ.g.K c [y])
    (F : FunD Γ.g.K "__init__" q (defArgs st) (defBody st) (defScope st) [] [] (He.ma Γ.g.K (He.ga Γ.g.K c) "__init__") fd) (S : FnScope ["self", y] ["self", y] (defScope st)) (hb : defBody st = [.Assign [.Attribute (.Name "self" p1) y p2] (.Name y p3) pos])
    (hB : Binds Γ.g.K fd ["self", y] []) (hK : ∀ (s : Shared) (u w : Value), BindsTo s fd ⟨[u], [(y, w)]⟩ [("self", u), (y, w)]) (v0 : Vis (defScope st) "self") (v1 : Vis (defScope st) y) (hd : (y == ("__debug__" : Str)) = false := by decide) (hcd : (y == ("__classdict__" : Str)) = false := by decide) : ExcV Γ c [y] :=
  ⟨⟨_, _, fd, hm, hc, M.oex, M.ini, M.ty, (init_ok (fun_ofD F) S hb v0 v1 hd hcd M.oex (M.no y List.mem_cons_self)).imp fun vs H Q E h => spI_one h, hB, fun s u pm ws hk hp hl hy => by
    rcases hp with rfl | rfl
    · match ws, hl with
      | [w], _ => exact hK s u w
    · cases hy⟩, hk⟩
theorem excV2_by {Γ : Cs} {c y1 y2 q : Str} {st : Stmt} {fd : FuncData} {p1 p2 p3 pos p1' p2' p3' pos' : Pos} (hm : Γ.mg c = some (.ref (He.ga Γ.g.K c))) (hc : Γ.g.cls c = some (He.ga Γ.g.K c)) (hk : 2 ≤ Γ.k) (M : MkF Γ.g.K c [y1, y2])
    (F : FunD Γ.g.K "__init__" q (defArgs st) (defBody st) (defScope st) [] [] (He.ma Γ.g.K (He.ga Γ.g.K c) "__init__") fd) (S : FnScope ["self", y1, y2] ["self", y1, y2] (defScope st)) (hb : defBody st = [.Assign [.Attribute (.Name "self" p1) y1 p2] (.Name y1 p3) pos, .Assign [.Attribute (.Name "self" p1') y2 p2'] (.Name y2 p3') pos'])
    (hB : Binds Γ.g.K fd ["self", y1, y2] []) (hK : ∀ (s : Shared) (u w1 w2 : Value), BindsTo s fd ⟨[u], [(y2, w1), (y1, w2)]⟩ [("self", u), (y1, w2), (y2, w1)]) (v0 : Vis (defScope st) "self") (v1 : Vis (defScope st) y1) (v2 : Vis (defScope st) y2)
    (hd : (y1 == ("__debug__" : Str)) = false := by decide) (hcd : (y1 == ("__classdict__" : Str)) = false := by decide) (hd2 : (y2 == ("__debug__" : Str)) = false := by decide) (hcd2 : (y2 == ("__classdict__" : Str)) = false := by decide) : ExcV Γ c [y1, y2] :=
  ⟨⟨_, _, fd, hm, hc, M.oex, M.ini, M.ty, init2_ok (fun_ofD F) S hb v0 v1 v2 hd hcd hd2 hcd2 M.oex (M.no y1 List.mem_cons_self) (M.no y2 (List.mem_cons_of_mem _ List.mem_cons_self)), hB, fun s u pm ws hk hp hl hy => by
    rcases hp with rfl | rfl
    · cases hy
    · match ws, hl with
      | [w1, w2], _ => exact hK s u w1 w2⟩, hk⟩
theorem excN_by {Γ : Cs} {c : Str} (hm : Γ.mg c = some (.ref (He.ga Γ.g.K c))) (hc : Γ.g.cls c = some (He.ga Γ.g.K c)) (h : (PySem.W.excIn Γ.g.K (He.ga Γ.g.K c) He.veBase "ValueError.__new__" && PySem.W.keepIn Γ.g.K (.ref (He.ga Γ.g.K c))) = true) : ExcN Γ c :=
  ⟨⟨_, _, _, _, _, F.excBase_ValueError, hm, hc, (He.ba h).1, (He.ba h).2⟩⟩
theorem xaF_by {Γ : Cs} {cs : List Str} {f : Str} {mkl : List (Str × List Str)} (hcls : ∀ c, Γ.g.cls c = some (He.ga Γ.g.K c)) (hM : ∀ p ∈ mkl, MkF Γ.g.K p.1 p.2) (h : ∀ c ∈ cs, ∃ p ∈ mkl, p.1 = c ∧ f ∈ p.2) : XaF Γ cs f := ⟨fun c m C hc => by
  rw [hcls] at hc
  cases hc
  obtain ⟨p, hp, e, hf⟩ := h c m
  have M := hM p hp
  rw [e] at M
  exact ⟨M.xf, M.no f hf⟩⟩
/-- a promise without exceptions -/
theorem fnok_cx0 {P : Program} {w : World} {K : PySem.W.Frag} {mg : Str → Option Value} {base : Heap} {k : Nat} {f : Addr} {fd : FuncData} {ps : List Str} {sp : Sp} (F : FnOk P w K mg base (L2.CX P w) k f fd ps sp) : FnOk P w K mg base L2.CX0 k f fd ps (fun vs H Q _ => sp vs H Q (fun _ _ _ => False)) :=
  ⟨fun vs H Q E h => F.len _ _ _ _ h, fun A outer s H args us vs Q E hr he hb hv hs => codeAny_mono (F.run A outer s H args us vs Q _ hr he hb hv hs) fun r s' h => by
    cases r with
    | error e =>
      obtain ⟨_, _, _, _, _, _, _, _, _, _, _, _, z⟩ := h
      exact z.elim
    | ok fl =>
      cases fl with
      | ret u => exact h
      | next => exact h
      | brk => exact h
      | cont => exact h⟩
/-- the law's own promise at the head -/
theorem law_sp {g : Glb} {H : Hp} {a : Addr} {ns : List Int} {f : List D → CR} {E : XK} (hT : g.T = []) (hS : SqL g.K H a (ns.map V.int)) (h : f [.lst false (ns.map .int)] = .ok (.bl true) []) : spF g [false] f [.ref a] H (fun v _ => v = .bl true) E := by
  have hr : ∀ (ns : List Int) (H : Hp) (Z : Addr → Prop), RepL g H Z (ns.map V.int) (ns.map D.int) [] := fun ns => by
    induction ns with
    | nil => exact fun _ _ => .nil
    | cons i ns ih => exact fun H Z => .cons (A := []) (B := []) (.int i) (ih H Z)
  refine ⟨rfl, ⟨fun _ => none, []⟩, [.lst false (ns.map .int)], [], rfl, ⟨[], RepP.cons (A := []) (B := []) (p := (.ref a, .lst false (ns.map .int))) ?_ .nil, List.nodup_nil, ⟨fun q m => (by rw [hT] at m; cases m), fun _ _ _ e => (by cases e)⟩⟩, ?_⟩
  · rcases hS with hS | hS
    · exact .lstF hS (fun m => nomatch m) (hr ns H _)
    · exact .lstK hS (hr ns H _)
  · rw [h]
    refine ⟨rfl, fun v H' j => ?_⟩
    obtain ⟨A, r, _, _⟩ := j
    obtain ⟨B, C, _, g1, _⟩ := r.inv
    have g2 := g1.vw
    exact vw_at (d := .bl true) rfl g2
end TL
end

-- text TH1
section
set_option Elab.async false
set_option linter.all false
set_option maxRecDepth 100000
set_option maxHeartbeats 4000000
/-! a comprehension over range while an exception is handled -/
namespace TLH
open PySem PySem.Spec PyProof.Rows L2 L2H
section
variable {X : Cx} {pins : List (Addr × Obj)} {σ : L2.St} {H : Hp} {s : Shared}
/-- an iterator of range at its turn i of n -/
abbrev Rit (it : Addr) (n i : Nat) (h : Heap) : Prop := IsRangeIter h it ((i : Nat) : Int) ((n : Int) - (i : Nat)) 1
/-- iter(range(..)) has come -/
def RiH (X : Cx) (pins : List (Addr × Obj)) (σ : L2.St) (R : It → Hp → Prop) (v : Value) (s2 : Shared) : Prop :=
  ∃ (it : Addr) (n : Nat) (H2 : Hp), v = .ref it ∧ Inv X pins σ H2 s2 ∧ Rit it n 0 s2.heap ∧ FpOk X pins H2 it ∧ R (Itr 0 n) H2
theorem rng_hot {a : Expr} {ta : TA} {R : It → Hp → Prop} {p pos : Pos} (hg : Gl X "range") (hm : X.mg "range" = none) (ha : PA X [a] ta) (hs : starEach [a] X.env = [(false, eval a X.env)]) (I : Inv X pins σ H s) (h : iRng1 ta σ H R) :
    wpAny (model X.prog X.w) X.A (eval (.Call (.Name "range" p) [a] [] pos) X.env) (fun v s1 => wpAny (model X.prog X.w) X.A (pyIter v) (RiH X pins σ R) X.xe s1) X.xe s := by
  have go := ha.run pos pins s σ H _ I h
  refine Call_ (ld_blt I hg hm boot_range (callWith_type1 (thn go ?_) hs rfl))
  rintro us ⟨hp, gg, dd, tk, oo⟩ ⟨vs, H1, I1, r1, j, rfl, b1, b2, q⟩
  cases r1 with
  | cons r rr =>
    cases rr
    obtain ⟨t, rfl⟩ := r
    refine call_range_1 (wpAny_pyIter_range (IsRange.new ..) (small_one (by omega) (by omega) b1 b2) ?_)
    generalize ho1 : hp.push { cls := .type "range", data := .fields #[.int 0 tk, .int j t, .int 1 (tk + 1)] } = hp1
    have J1 : Inv X pins σ H1 ⟨hp1, gg, dd, tk + 1 + 1, oo⟩ := I1.kept (t' := tk + 1 + 1) fun b u e => by rw [← ho1]; exact Heap.get?_push_of_some _ e
    refine ⟨hp1.objs.size, j.toNat, H1, rfl, J1.kept (t' := tk + 1 + 1) fun b u e => Heap.get?_push_of_some _ e, ?_, J1.fpOk (Nat.le_refl _) (J1.hok.fresh (Nat.le_refl _)), q⟩
    have hr : Builtin.Range.rangeSize 0 j 1 = ((j.toNat : Nat) : Int) - ((0 : Nat) : Int) := by
      rw [rangeSize_one]
      split <;> omega
    show IsRangeIter (hp1.push _) hp1.objs.size ((0 : Nat) : Int) (((j.toNat : Nat) : Int) - ((0 : Nat) : Int)) 1
    rw [← hr]
    exact Heap.get?_push_size _ rfl
variable {elt tg a : Expr} {ifs : List Expr} {scope : Scope} {own : List (Str × Nat)} {pos pr p : Pos} {ta : TA} {g : TG} {tt : TT} {te : TE}
theorem lc_hot (hc : HotC X) (hN : X.N.Nodup) (hgl : Gl X "range") (hm : X.mg "range" = none) (ha : PA X [a] ta) (ok : BlkOk X.N X.env.scope scope own)
    (hg : ∀ s H C cl fp, PG (X.blk s H scope (compEnvC scope cl C X.env) fp) tg g) (ht : ∀ s H C cl fp, PTs (X.blk s H scope (compEnvC scope cl C X.env) fp) ifs tt) (he : ∀ s H C cl fp, PE (X.blk s H scope (compEnvC scope cl C X.env) fp) elt te)
    (hsa : starEach [a] X.env = [(false, eval a X.env)] := by rfl) (hsf : ∀ x, foldedSetIterable (.Call (.Name "range" p) [a] [] pr) X.env x = pure x := by intro _; rfl) :
    PE X (.ListComp elt [⟨tg, .Call (.Name "range" p) [a] [] pr, ifs, 0⟩] scope pos) (tLc (iRng1 ta) g tt te (own.map (·.2))) := by
  constructor
  intro pins s σ H Q I h
  rw [eval_ListComp]
  have cells : ∀ y ∈ scope.names, y.2 = .free → ∃ c, X.env.cells.lookup y.1 = some c := fun y hy e => (ok.free y hy e).elim (fun k => I.ok.has _ (.inl k)) fun k => I.ok.has _ (.inr k)
  refine wpAny_comprehension_free (use := none) rfl hsf (closure_ok cells) ok.kind (fun y hy e => (ok.uniq y hy).trans (congrArg some e)) (thn (rng_hot hgl hm ha hsa I h) fun _ _ hx => thn hx ?_)
  rintro itv t2 ⟨it, n, H2, rfl, I2, st2, f2, q⟩
  refine wpAny_newObj_type (newEnv_comp ?_) (Nat.zero_le _)
  -- the list that will be told
  obtain ⟨L, hL⟩ : ∃ L, t2.heap.objs.size = L := ⟨_, rfl⟩
  rw [hL]
  have freeL : H2 L = none := I2.hok.fresh (Nat.le_of_eq hL)
  obtain ⟨W, ⟨m0, w0⟩, turn⟩ := q L freeL
  obtain ⟨t3, ht3⟩ : ∃ t3 : Shared, { t2 with heap := t2.heap.push { cls := .type "list", data := .seq ([] : List Value).toArray } } = t3 := ⟨_, rfl⟩
  have kp3 : ∀ b o, t2.heap.get? b = some o → t3.heap.get? b = some o := fun b o e => by
    rw [← ht3]
    exact Heap.get?_push_of_some _ e
  obtain ⟨H3, hH3⟩ : ∃ H3, upd H2 L (.lst []) = H3 := ⟨_, rfl⟩
  have I3 : Inv X pins σ H3 t3 := by
    rw [← ht3, ← hH3]
    refine I2.laid (t' := t2.toks) (fun b o e => Heap.get?_push_of_some _ e) (Nat.le_of_eq hL) ⟨Nat.zero_le _, [], 0, .nil, ?_⟩
    rw [← hL]
    exact Heap.get?_push_size _ rfl
  have itlt : it < t2.heap.objs.size := Heap.lt_size st2
  have f3 : FpOk X pins H3 it := ⟨by rw [← hH3, upd_ne (by rw [← hL]; exact Nat.ne_of_lt itlt)]; exact f2.1, f2.2⟩
  have st3 : Rit it n 0 t3.heap := kp3 _ _ st2
  have lt3 : it < t3.heap.objs.size := Heap.lt_size st3
  have blk := block_start (fp := [it]) I3 ok hN fun b hb => by
    rw [List.mem_singleton.mp hb]
    exact ⟨f3, lt3⟩
  rw [hH3] at w0
  rw [ht3]
  obtain ⟨C, hC⟩ : ∃ C, t3.heap.objs.size = C := ⟨_, rfl⟩
  obtain ⟨ce, hce⟩ : ∃ ce, compEnvC scope (cellsFrom (t3.heap.objs.size + 1) scope.names (cloFrom X.env.cells scope.names [])) t3.heap.objs.size X.env = ce := ⟨_, rfl⟩
  have ceL : ce.locals = C := by
    rw [← hce, ← hC]
    rfl
  have pg : PG (X.blk t3 H3 scope ce [it]) tg g := by
    rw [← hce]
    exact hg ..
  have pt : PTs (X.blk t3 H3 scope ce [it]) ifs tt := by
    rw [← hce]
    exact ht ..
  have pe : PE (X.blk t3 H3 scope ce [it]) elt te := by
    rw [← hce]
    exact he ..
  obtain ⟨t4, ht4⟩ : ∃ t4 : Shared, { t3 with heap := pushCells (t3.heap.push { cls := .type "dict", data := .dict #[] }) scope.names } = t4 := ⟨_, rfl⟩
  rw [ht4, hce] at blk
  have st4 : Rit it n 0 t4.heap := by
    rw [← ht4]
    exact pushCells_keeps _ _ _ _ (Heap.get?_push_of_some _ st3)
  show codeAny (model X.prog X.w) X.A (.compStart (.ListComp elt [⟨tg, .Call (.Name "range" p) [a] [] pr, ifs, 0⟩] scope pos) 0 (.ref it) (.ref L) (compEnvC scope (cellsFrom (t3.heap.objs.size + 1) scope.names (cloFrom X.env.cells scope.names [])) t3.heap.objs.size X.env)) (compPost (model X.prog X.w) X.A X.xe none (EP X pins σ Q) (.ref L) t3.heap.objs.size) { t3 with heap := pushCells (t3.heap.push { cls := .type "dict", data := .dict #[] }) scope.names }
  rw [ht4, hce, hC]
  -- what the block's own state says of the def's
  have back : ∀ {τ : L2.St} {K' : Hp} {t : Shared}, Inv (X.blk t3 H3 scope ce [it]) [] τ K' t → Inv X pins σ K' t := fun {τ K' t} J => I3.call' (ch := [it]) J.os J.base J.hok J.bare fun b hb => by
    rw [List.mem_singleton.mp hb]
    exact ⟨f3.2.2.2.1, f3.2.1, f3.2.2.2.2.1, f3.2.2.2.2.2⟩
  have turns : ∀ {τ : L2.St} {K' : Hp} {t : Shared}, Inv (X.blk t3 H3 scope ce [it]) [] τ K' t → K' it = none → FpOk (X.blk t3 H3 scope ce [it]) [] K' it := fun {τ K' t} J e =>
    ⟨e, (J.ok.exf it List.mem_cons_self).1, J.ok.exfs it List.mem_cons_self, .inl List.mem_cons_self, (J.ok.exf it List.mem_cons_self).2, fun q hq => nomatch (show q ∈ ([] : List (Addr × Obj)) from hq)⟩
  have run : codeAny (model X.prog X.w) X.A (.compLoop (.ListComp elt [⟨tg, .Call (.Name "range" p) [a] [] pr, ifs, 0⟩] scope pos) 0 (.ref it) (.ref L) ce) (compPost (model X.prog X.w) X.A X.xe none (EP X pins σ Q) (.ref L) C) t4 := by
    refine compLoop_any (fun m t => ∃ i K', Inv (X.blk t3 H3 scope ce [it]) [] (wipe σ (own.map (·.2))) K' t ∧ Rit it n i t.heap ∧ K' it = none ∧ W i m K') ?_ m0 ⟨0, H3, blk, st4, f3.1, w0⟩
    rintro m t5 ⟨i, K5, J5, st5, n5, w5⟩
    obtain ⟨e0, e1, e2, e3, e4, e5⟩ := turns J5 n5
    rcases turn i m K5 w5 with ⟨stop, qq⟩ | ⟨gogo, Nx, hNx, step⟩
    · -- the end
      obtain ⟨x1, hot⟩ := hc.at (back J5)
      have over : (n : Int) - (i : Nat) ≤ 0 := by
        have : n ≤ i := stop
        omega
      refine HotX.pyNext_range_end_hot hot st5 over fun h6 k6 => ?_
      have J6 := back (J5.turned (t' := t5.toks) (fun b o _ e => k6 b o e) e0 e1 e3 e4 e5)
      obtain ⟨mm, hn, _⟩ := (J5.turned (t' := t5.toks) (fun b o _ e => k6 b o e) e0 e1 e3 e4 e5).loc
      have hn : h6.Ns ce.locals mm := hn
      rw [ceL] at hn
      refine ⟨mm, hn, fun h7 sb => ?_⟩
      have free : K5 C = none := by
        have z : K5 ce.locals = none := J5.free
        rw [ceL] at z
        exact z
      obtain ⟨y0, y1, y2, y3, y4, y5⟩ := I3.fpOk (Nat.le_of_eq hC) free
      exact ⟨.ref L, K5, J6.turned (t' := t5.toks) (fun b o nb e => (sb.2 b nb).trans e) y0 y1 y3 y4 y5, rfl, qq⟩
    · -- one turn more
      have more : 0 < (n : Int) - (i : Nat) := by
        have : i < n := gogo
        omega
      refine wpAny_pyNext_range_item st5 more fun h6 st6 sb6 => ?_
      have J6 := J5.turned (t' := t5.toks + 1) (fun b o nb e => (sb6.2 b nb).trans e) e0 e1 e3 e4 e5
      have st6 : Rit it n (i + 1) h6 := by
        have a1 : ((i : Nat) : Int) + 1 = ((i + 1 : Nat) : Int) := by omega
        have a2 : (n : Int) - ((i : Nat) : Int) - 1 = (n : Int) - ((i + 1 : Nat) : Int) := by omega
        rw [a1, a2] at st6
        exact st6
      refine go_of (n := "range_iterator") st6 rfl rfl (by decide) ?_
      have pinIt : (it, _) ∈ pinsAt [it] h6 := mem_pinsAt List.mem_cons_self st6
      have J7 := J6.pinned (fp := [it]) (fun b hb => by rw [List.mem_singleton.mp hb]; exact turns J6 n5) fun b hb => by
        rw [List.mem_singleton.mp hb]
        exact ⟨_, st6, fun v z => by cases z⟩
      have yi : (Itr 0 n).yld i K5 (.int (0 + ((i : Nat) : Int))) K5 := ⟨rfl, rfl⟩
      rw [Int.zero_add] at yi
      refine thnF (pg.run _ _ _ K5 (.int ((i : Nat) : Int)) _ _ J7 ⟨_, rfl⟩ (step _ K5 yi)) ?_
      rintro _ t8 ⟨σ8, K8, J8, hw8, q8⟩
      refine thnF (pt.run _ _ _ _ _ J8 q8) ?_
      rintro b t9 ⟨K9, J9, q9⟩
      have fin : ∀ {t : Shared} {K' : Hp}, Inv (X.blk t3 H3 scope ce [it]) ([] ++ pinsAt [it] h6) σ8 K' t → Nx K' → ∃ m', m' < m ∧ ∃ i K', Inv (X.blk t3 H3 scope ce [it]) [] (wipe σ (own.map (·.2))) K' t ∧ Rit it n i t.heap ∧ K' it = none ∧ W i m' K' := fun {t K'} J nx => by
        obtain ⟨m', hlt, w'⟩ := hNx K' nx
        have z := J.pin _ (List.mem_append_right _ (List.mem_append_right _ pinIt))
        refine ⟨m', hlt, i + 1, K', (J.unpinned (pins := [])).weak ?_ (fun j v e => ?_), z.1, z.2.1, w'⟩
        · rw [← hw8, wipe_length]
        · rw [← hw8] at e
          exact (wipe_some e).1
      cases b with
      | false =>
        simp only [Bool.false_eq_true, if_false] at q9 ⊢
        exact fin J9 q9
      | true =>
        simp only [if_true] at q9 ⊢
        refine thnF (pe.run _ _ _ _ _ J9 q9) ?_
        rintro z t10 ⟨yv, K10, J10, r10, acc, hL10, hz10, nx⟩
        exact app_ok (X := X.blk t3 H3 scope ce [it]) J10 hL10 hz10 r10 fun t11 J11 => fin J11 nx
  exact codeAny_compStart_list run (wpAny_pyIter_rangeiter st4 run)
end
end TLH
end

-- text TH2
section
set_option Elab.async false
set_option linter.all false
set_option maxRecDepth 100000
set_option maxHeartbeats 4000000
/-! defs called with the exception that is handled -/
namespace TLH
open PySem PySem.Spec PyProof.Rows L2 L2H TL
/-- a list of these ints is told, new -/
def TellL (is : List Int) (H : Hp) (Q : VK) : Prop := ∀ L H', H L = none → Ext H H' → H' L = some (.lst (is.map V.int)) → Q (.ref L) H'
structure FnP (P : Program) (w : World) (K : PySem.W.Frag) (mg : Str → Option Value) (base : Heap) (k : Nat) (f : Addr) (fd : FuncData) (C : Addr) (is : List Int) : Prop where
  run : ∀ (A : Around) (outer : List Env) (s : Shared) (H : Hp) (Q : VK) (p : Addr × Obj), RoomH k A → Hot1 A p → PinOk outer H s p → XObj H p.2 C → Env0 P w K mg base A outer s H → BindsTo s fd ⟨[.ref p.1], []⟩ [(("e" : Str), .ref p.1)] → TellL is H Q →
    codeAny (model P w) A (.call (.ref f) ⟨[.ref p.1], []⟩) (CR (L2.CX P w) outer P w H s Q (fun _ _ _ => False)) s
section
variable {P : Program} {w : World} {K : PySem.W.Frag} {mg : Str → Option Value} {base : Heap} {k : Nat} {f C : Addr} {is : List Int}
theorem fnP_of {name qual : Str} {params : Arguments} {body : List Stmt} {scope : Scope} {dV kV doc pm cdv ct oc : Value} {an od : Option Addr} {osl : Array (Option Value)} {N : List Str}
    (lk : K.lookup f = some ⟨oc, od, .func (PySem.W.fnOf name qual params body scope dV kV doc pm an cdv ct), osl⟩) (hcd : PySem.W.codeIn K cdv qual = true) (S : FnScope N ["e"] scope)
    (hb : ∀ (A : Around) (outer : List Env) (s : Shared) (H : Hp) (Q : VK) (p : Addr × Obj), Hot1 A p → XObj H p.2 C → RoomH k (A.deeper (envOfC qual scope s.heap.objs.size f cdv)) → TellL is H Q →
      ∃ t, PSs (cxH (L2.CX P w) P w K mg base N qual scope f cdv A outer s H (fun _ _ _ => False) p) body t ∧ t { nx := fun _ H' => Q .non H', rt := Q } (L2.start N [.ref p.1]) H) :
    FnP P w K mg base (k + 1) f (PySem.W.fnOf name qual params body scope dV kV doc pm an cdv ct) C is := by
  constructor
  intro A outer s H Q p hr hot pin hx e0 hbd hq
  have inK := e0.mod.kin.keeps fun b o e => (e0.bs b o e).1
  have noL := e0.mod.nolimit.keeps fun b o e => (e0.bs b o e).1
  have par : ∀ y ∈ [(("e" : Str), Value.ref p.1)], scope.names.lookup y.1 = some .local ∨ (scope.names.lookup y.1 = some .cell ∧ ((cellsFrom (s.heap.objs.size + 1) scope.names []).lookup y.1).isSome = true) := by
    intro y hy
    rw [List.mem_singleton.mp hy]
    exact (S.par "e" List.mem_cons_self).imp id fun q => ⟨q, PySem.W.cellsFrom_some _ _ _ (.inl q)⟩
  refine codeAny_call_function (RoomH.depth hr) (inK _ _ lk) rfl S.co S.gen rfl (PySem.W.codeRec_of inK hcd) (hbd _ _ _ _ (wpAny_newFunctionEnv_cells S.kind par ?_))
  rintro _ rfl t1 ht
  have noL1 := noL.keeps ht.toInCall.keep
  refine ⟨noL1, codeAny_func ?_⟩
  obtain ⟨t, h1, h2⟩ := hb A outer s H Q p hot hx (hr.deeper _) hq
  have J := inv_startH (us := [.ref p.1]) (vs := [.ref p.1]) (CX := L2.CX P w) (E := fun _ _ _ => False) S pin e0 rfl (.cons rfl .nil) ht
  refine wpAny_mono (h1.run [] t1 _ H _ J h2) (fun fl t2 z => ?_) fun _ _ z => z
  cases fl with
  | ret v =>
    obtain ⟨v', σ', H', J', rv, q⟩ := z
    exact ⟨v', H', J'.os, J'.bare, J'.base, J'.hok, rv, q⟩
  | next =>
    obtain ⟨σ', H', J', q⟩ := z
    exact ⟨V.non, H', J'.os, J'.bare, J'.base, J'.hok, rfl, q⟩
  | brk =>
    obtain ⟨_, _, _, q⟩ := z
    exact False.elim q
  | cont =>
    obtain ⟨_, _, _, q⟩ := z
    exact False.elim q
end
section
variable {X : Cx} {k i : Nat} {f C : Addr} {fd : FuncData} {is : List Int} {p : Addr × Obj} {x y : Str} {q q2 pos : Pos}
/-- the handled exception is the value of the name i -/
def AtE (i : Nat) (p : Addr × Obj) (C : Addr) (σ : L2.St) (H : Hp) : Prop := σ[i]? = some (some (.ref p.1)) ∧ XObj H p.2 C
def tHot (i : Nat) (p : Addr × Obj) (C : Addr) (is : List Int) : TE := fun σ H Q => AtE i p C σ H ∧ TellL is H Q
theorem pe_callP (F : FnP X.prog X.w X.K X.mg X.base k f fd C is) (hr : RoomH k X.A) (hot : Hot1 X.A p) (hp : p ∈ X.pn) (hg : Gl X x) (hm : X.mg x = some (.ref f)) (hk : PySem.W.keepIn X.K (.ref f) = true) (hb : Binds X.K fd ["e"] [])
    (hN : X.N[i]? = some y) (hv : Vis X.env.scope y) (hd : (y == ("__debug__" : Str)) = false := by decide) (hcd : (y == ("__classdict__" : Str)) = false := by decide) (hdb : (x == ("__debug__" : Str)) = false := by decide)
    (he : starEach [.Name y q2] X.env = (false, eval (.Name y q2) X.env) :: starEach [] X.env := by rfl) (hpl : (backTo pos (starEach [] X.env)).any (·.1) = false := by rfl) : PE X (.Call (.Name x q) [.Name y q2] [] pos) (tHot i p C is) := by
  constructor
  rintro pins s σ H Q I ⟨⟨h1, h2⟩, h3⟩
  refine wpAny_Call_Name_kw (ld_glob I hg hm (PySem.W.callWith_K (h₀ := X.base) I.ok.mod.kin hk (thn ((pa_cons (pe_var hN hv hd hcd) pa_nil he).run pos pins s σ H (fun vs H1 => vs = [.ref p.1] ∧ H1 = H) I ⟨_, h1, rfl, rfl⟩) ?_) he hpl) hdb)
  rintro us t ⟨vs, H1, I1, r, rfl, rfl⟩
  cases r with
  | cons r rr =>
    cases rr
    cases r
    refine ⟨I1.kIn, ?_⟩
    have b := hb t [.ref p.1] I1.kIn rfl
    have P1 := I1.pin p (List.mem_append_left _ hp)
    refine wpAny_call (codeAny_mono (F.run X.A X.stack t H1 Q p hr hot ⟨P1.1, P1.2.1, fun m => ?_, P1.2.2.2.2⟩ h2 I1.env0 b h3) fun r t2 z => ?_)
    · rcases List.mem_cons.mp (I1.stkSub p.1 m) with e | e
      · exact P1.2.2.1 e
      · exact P1.2.2.2.1 e
    · cases r with
      | error e =>
        obtain ⟨_, _, _, _, _, _, _, _, _, _, _, _, z⟩ := z
        exact z.elim
      | ok fl =>
        cases fl with
        | ret u => exact I1.after z
        | next => exact z.elim
        | brk => exact z.elim
        | cont => exact z.elim
/-! isinstance of it -/
def rIsP (K : PySem.W.Frag) (p : Addr × Obj) (C : Addr) : List V → Hp → VK → Prop := fun xs H Q => ∃ (c : V) (u : Value) (b : Bool), xs = [.ref p.1, c] ∧ ClsV c u ∧ XObj H p.2 C ∧ PySem.W.kitOne K (.ref C) u = some b ∧ Q (.bl b) H
theorem call_isP (hp : p ∈ X.pn) (E : ExcC X.K C) : CallR X (.builtin "isinstance") (rIsP X.K p C) := by
  intro pins s σ H xs us Q I r h
  obtain ⟨c, u, b, rfl, k, ⟨z1, ⟨vs, z2⟩, z3⟩, e, qq⟩ := h
  obtain ⟨u1, u2, rfl, r1, r2⟩ := vals2 r
  have e2 := k.eq r2
  subst e2
  cases (show u1 = Value.ref p.1 from r1)
  have ho := (I.pin p (List.mem_append_left _ hp)).1
  have hcl : (PySem.W.clsIn X.K C).isSome = true := by
    obtain ⟨cd, hc, _⟩ := PySem.W.any_some E.hd
    rw [hc]
    rfl
  have nc : PySem.W.notCls p.2 = true := by
    unfold PySem.W.notCls
    rw [z2]
  rcases z3 with z3 | ⟨d, vfs, z3, z4⟩
  · exact PySem.W.kia_one (PySem.W.kitx_exc (x := p.1) (ox := p.2) (od := none) hcl E.hg E.hk E.hs E.ha E.hn E.ht E.hm) I.kIn ⟨ho, z1, nc, by rw [z3]; trivial⟩ e (fun z => nomatch z) fun tk => ⟨.bl b, H, I.tok tk, rfl, qq⟩
  · have hx : ObjOk X.prog X.w H s.heap d (.xd vfs) := I.hok d _ z4
    obtain ⟨mA, ⟨oD, es, ep, hoD, _⟩, _⟩ := hx
    exact PySem.W.kia_one (PySem.W.kitx_exc (x := p.1) (ox := p.2) (od := some oD) hcl E.hg E.hk E.hs E.ha E.hn E.ht E.hm) I.kIn ⟨ho, z1, nc, by rw [z3]; exact hoD⟩ e (fun z => nomatch z) fun tk => ⟨.bl b, H, I.tok tk, rfl, qq⟩
end
end TLH
end

-- text TH3
section
set_option Elab.async false
set_option linter.all false
set_option maxRecDepth 100000
set_option maxHeartbeats 4000000
/-! the defs that tell the kinds of an exception, while it is handled -/
namespace TLH
open PySem PySem.Spec PyProof.Rows L2 L2H TL
theorem ext_upd {H H1 : Hp} {L : Addr} {o : HO} (e : Ext H H1) (n : H L = none) : Ext H (upd H1 L o) := fun c u h => by
  rw [upd_ne (ne_of_none h n)]
  exact e c u h
theorem XObj.ext {H H' : Hp} {oe : Obj} {C : Addr} (e : Ext H H') (h : XObj H oe C) : XObj H' oe C := h.to fun d vfs _ z => e _ _ z
section
variable {X : Cx} {p : Addr × Obj} {C : Addr} {H0 : Hp} {e : Expr} {es : List Expr} {b : Bool} {bs : List Bool}
def tBl (p : Addr × Obj) (C : Addr) (b : Bool) : TE := fun σ H Q => AtE 0 p C σ H ∧ Q (.bl b) H
def tBls (p : Addr × Obj) (C : Addr) (bs : List Bool) : TA := fun σ H Q => AtE 0 p C σ H ∧ Q (bs.map V.bl) H
theorem pa_bls0 : PA X [] (tBls p C []) := PA.imp pa_nil fun σ H Q h => h.2
theorem pa_bls (h : PE X e (tBl p C b)) (r : PA X es (tBls p C bs)) (hs : starEach (e :: es) X.env = (false, eval e X.env) :: starEach es X.env := by rfl) : PA X (e :: es) (tBls p C (b :: bs)) :=
  PA.imp (pa_cons h r hs) fun σ H Q h => ⟨h.1, h.1, h.2⟩
/-- isinstance(e, k) -/
theorem pe_isP {Γ : Cs} {cs : List Str} {tab : Str → Str → Bool} {c k y : Str} {D : Addr} {p1 p2 p3 pos : Pos} (F : IsF Γ cs tab) (hK : X.K = Γ.g.K) (hmg : X.mg = Γ.mg) (hp : p ∈ X.pn) (hc : c ∈ cs) (hC : Γ.g.cls c = some C) (hk : k ∈ cs ++ [("RunError" : Str)]) (hm : Γ.mg k = some (.ref D))
    (hg : Gl X "isinstance") (hm0 : X.mg "isinstance" = none) (hv : bootBuiltins "isinstance" = some (.builtin "isinstance")) (hN : X.N[0]? = some y) (hvy : Vis X.env.scope y) (hgk : Gl X k) (hd : (y == ("__debug__" : Str)) = false := by decide) (hcd : (y == ("__classdict__" : Str)) = false := by decide) (hdk : (k == ("__debug__" : Str)) = false := by decide)
    (he : starEach [.Name y p2, .Name k p3] X.env = (false, eval (.Name y p2) X.env) :: starEach [.Name k p3] X.env := by rfl) : PE X (.Call (.Name "isinstance" p1) [.Name y p2, .Name k p3] [] pos) (tBl p C (tab c k)) :=
  PE.imp (pe_callB (call_isP (C := C) hp (by rw [hK]; exact F.inst c hc C hC)) hg hm0 hv (pa_cons (pe_var hN hvy hd hcd) (pa_cons (pe_glob (v := .ref D) hgk (by rw [hmg]; exact hm) rfl hdk) pa_nil (by rfl)) he) (by decide) (by decide) he rfl) fun σ H Q h =>
    ⟨.ref p.1, h.1.1, .ref D, .ref D, tab c k, rfl, .own D, h.1.2, by rw [hK]; exact F.own c hc k D hm C hC hk, h.2⟩
/-- the list of the truths so far -/
structure Kst (p : Addr × Obj) (C : Addr) (H0 : Hp) (bs : List Bool) (σ : L2.St) (H : Hp) : Prop where
  at_ : AtE 0 p C σ H
  len : σ.length = 3
  ext : Ext H0 H
  ls : ∃ L, H0 L = none ∧ σ[1]? = some (some (.ref L)) ∧ H L = some (.lst (bs.map V.bl))
theorem ps_first {x : Str} {p1 p2 pos : Pos} (h : PA X es (tBls p C bs)) (hN : X.N.Nodup) (hi : X.N[1]? = some x) (hx : Loc X.env.scope x) (hl : bs.length ≤ 100) (hs : swapsWith (.List es p2) (some (.Name x p1)) pos.line X.env = pure false := by rfl) (hf : X.fn x = true ∨ X.env.scope.names.lookup x = some .local := by first | exact .inl rfl | exact .inr rfl | assumption) :
    PS X (.Assign [.Name x p1] (.List es p2) pos) (fun D σ H => AtE 0 p C σ H ∧ σ.length = 3 ∧ ∀ σ' H', Kst p C H bs σ' H' → D.nx σ' H') :=
  PS.imp (ps_set hN hi hx (pe_lst h) hs hf) fun D σ H ⟨h1, h2, h3⟩ => by
    refine ⟨h1, by rw [List.length_map, sizeLine_eq]; omega, fun L n => h3 _ _ ⟨⟨?_, XObj.ext (Ext.new n) h1.2⟩, ?_, Ext.new n, L, n, ?_, upd_same⟩⟩
    · rw [List.getElem?_set_ne (by decide)]
      exact h1.1
    · rw [List.length_set]
      exact h2
    · exact List.getElem?_set_self (by omega)
theorem ps_more {x : Str} {acc : List Bool} {p1 p2 p3 pc pos : Pos} (h : PA X es (tBls p C bs)) (hi : X.N[1]? = some x) (hv : Vis X.env.scope x) (hl : acc.length + bs.length ≤ 100) (hd : (x == ("__debug__" : Str)) = false := by decide) (hcd : (x == ("__classdict__" : Str)) = false := by decide)
    (hline : (p2.endLine == pc.line) = true := by rfl) (hfew : ((backTo pc (starEach [.List es p3] X.env)).all (fun x => !x.1) && (backToKw pc (keywordEach [] X.env)).all (fun x => x.1.isSome) && decide (([.List es p3] : List Expr).length + ([] : List Keyword).length + (if ([] : List Keyword).isEmpty then 0 else 1) < 30)) = true := by rfl)
    (he : starEach [.List es p3] X.env = (false, eval (.List es p3) X.env) :: starEach [] X.env := by rfl) :
    PS X (.Expr (.Call (.Attribute (.Name x p1) "extend" p2) [.List es p3] [] pc) pos) (fun D σ H => Kst p C H0 acc σ H ∧ ∀ σ' H', Kst p C H0 (acc ++ bs) σ' H' → D.nx σ' H') :=
  PS.imp (ps_expr (pe_bm PySem.F.plainAttrs_list PySem.F.slot_list_extend PySem.F.type_list_extend mt_extend (pe_var (i := 1) hi hv hd hcd) (pa_cons (pe_lst h) pa_nil he) (by rfl) hfew hline he (by rfl)) (by rfl)) fun D σ H ⟨h1, h2⟩ => by
    obtain ⟨L, l1, l2, l3⟩ := h1.ls
    refine ⟨.ref L, l2, .inl ⟨rfl, _, .of l3⟩, h1.at_, by rw [List.length_map, sizeLine_eq]; omega, fun L2 n2 => ?_⟩
    have ne : L ≠ L2 := fun z => by
      rw [z, n2] at l3
      cases l3
    refine ⟨L, L2, acc.map V.bl, bs.map V.bl, rfl, rfl, by rw [upd_ne ne]; exact l3, upd_same, by rw [List.length_map, List.length_map, sizeLine_eq]; omega, h2 _ _ ⟨⟨h1.at_.1, ?_⟩, h1.len, ?_, L, l1, l2, ?_⟩⟩
    · exact h1.at_.2.to fun d vfs _ z => by
        rw [upd_ne (fun y => by rw [y, l3] at z; cases z), upd_ne (ne_of_none z n2)]
        exact z
    · exact ext_upd (fun c u z => by
        have z2 := h1.ext c u z
        rw [upd_ne (ne_of_none z2 n2)]
        exact z2) l1
    · rw [upd_same, List.map_append]
/-- which of the truths are true -/
def picks (c : Int) (bs : List Bool) : Nat → List Int
  | 0 => []
  | i + 1 => picks c bs i ++ (if bs[i]? = some true then [c + (i : Nat)] else [])
theorem picks_succ (c : Int) (bs : List Bool) (i : Nat) : picks c bs (i + 1) = picks c bs i ++ (if bs[i]? = some true then [c + (i : Nat)] else []) := rfl
theorem picks_len (c : Int) (bs : List Bool) : ∀ i, (picks c bs i).length ≤ i
  | 0 => Nat.le_refl _
  | i + 1 => by
    unfold picks
    rw [List.length_append]
    have := picks_len c bs i
    split <;> simp <;> omega
theorem pe_picks {n : Nat} {c : Int} {elt : Expr} {kx : Str} {scope : Scope} {kn : Nat} {x : Str} {p1 p2 p3 p4 p5 p6 p7 pos : Pos} (hc : HotC X) (hN : X.N.Nodup) (hk : X.N[2]? = some kx) (hi : X.N[1]? = some x) (hgl : Gl X "range") (hm : X.mg "range" = none) (ok : BlkOk X.N X.env.scope scope [(kx, 2)]) (hn : n ≤ 100)
    (hel : ∀ s H C cl fp, PE (X.blk s H scope (compEnvC scope cl C X.env) fp) elt (fun σ H Q => ∃ i, σ[2]? = some (some (.int i)) ∧ Q (.int (c + i)) H))
    (htg : ∀ s H C cl fp, PG (X.blk s H scope (compEnvC scope cl C X.env) fp) (.Name kx p1) (gName 2))
    (hv1 : ∀ s H C cl fp, Vis (X.blk s H scope (compEnvC scope cl C X.env) fp).env.scope x) (hv2 : ∀ s H C cl fp, Vis (X.blk s H scope (compEnvC scope cl C X.env) fp).env.scope kx)
    (hd1 : (x == ("__debug__" : Str)) = false := by decide) (hcd1 : (x == ("__classdict__" : Str)) = false := by decide) (hd2 : (kx == ("__debug__" : Str)) = false := by decide) (hcd2 : (kx == ("__classdict__" : Str)) = false := by decide) :
    PE X (.ListComp elt [⟨.Name kx p1, .Call (.Name "range" p2) [.Constant (.int (n : Int)) kn p3] [] p4, [.Subscript (.Name x p5) (.Name kx p6) p7], 0⟩] scope pos) (fun σ H Q => Kst p C H0 bs σ H ∧ bs.length = n ∧ TellL (picks c bs n) H0 Q) :=
  PE.imp (lc_hot (tt := fun σ H Q => tOp (rIx X.K) (tVar 1) (tVar 2) σ H fun x H' => ∃ k, TruV X.K x H' k ∧ Q k H') hc hN hgl hm (pa_cons pe_int pa_nil (by rfl)) ok htg
    (fun s H C cl fp => pts_one (pt_truth (pe_ix (X := X.blk s H scope (compEnvC scope cl C X.env) fp) ix_seq (pe_var (X := X.blk s H scope (compEnvC scope cl C X.env) fp) (i := 1) hi (hv1 s H C cl fp) hd1 hcd1) (pe_var (X := X.blk s H scope (compEnvC scope cl C X.env) fp) (i := 2) hk (hv2 s H C cl fp) hd2 hcd2) (by intro _ _; rfl)) (by intro _; rfl))) hel (by rfl)) fun σ H Q ⟨hst, hln, q⟩ => by
    obtain ⟨L, l1, l2, l3⟩ := hst.ls
    refine ⟨(n : Int), rfl, by omega, by omega, fun D hD => ?_⟩
    rw [Int.toNat_natCast]
    have hL : L ≠ D := fun z => by
      rw [z, hD] at l3
      cases l3
    have hD0 : H0 D = none := by
      cases z : H0 D with
      | none => rfl
      | some o =>
        have := hst.ext D o z
        rw [hD] at this
        cases this
    refine ⟨fun i m H' => m = n - i ∧ Ext H0 H' ∧ H' L = some (.lst (bs.map V.bl)) ∧ H' D = some (.lst ((picks c bs i).map V.int)) ∧ i ≤ n, ⟨n, by omega, ext_upd hst.ext hD0, by rw [upd_ne hL]; exact l3, upd_same, Nat.zero_le _⟩, ?_⟩
    rintro i m H1 ⟨rfl, w1, w2, w3, w4⟩
    by_cases hlt : i < n
    · refine .inr ⟨hlt, fun H' => Ext H0 H' ∧ H' L = some (.lst (bs.map V.bl)) ∧ H' D = some (.lst ((picks c bs (i + 1)).map V.int)), fun H' z => ⟨n - (i + 1), by omega, rfl, z.1, z.2.1, z.2.2, hlt⟩, ?_⟩
      rintro xv H2 ⟨rfl, rfl⟩
      rw [Int.zero_add]
      have len2 : ((L2.wipe σ [2]).set 2 (some (V.int (i : Nat)))).length = 3 := by
        rw [List.length_set, wipe_length]
        exact hst.len
      have s1 : ((L2.wipe σ [2]).set 2 (some (V.int (i : Nat))))[1]? = some (some (.ref L)) := by
        rw [List.getElem?_set_ne (by decide)]
        show (σ.set 2 none)[1]? = _
        rw [List.getElem?_set_ne (by decide)]
        exact l2
      have s2 : ((L2.wipe σ [2]).set 2 (some (V.int (i : Nat))))[2]? = some (some (.int (i : Nat))) := List.getElem?_set_self (by rw [wipe_length, hst.len]; decide)
      have hw : L2.wipe ((L2.wipe σ [2]).set 2 (some (V.int (i : Nat)))) [2] = L2.wipe σ [2] := by
        show (((σ.set 2 none).set 2 _).set 2 none) = σ.set 2 none
        rw [List.set_set, List.set_set]
      refine ⟨hw, .ref L, s1, .int (i : Nat), s2, .inl ?_⟩
      have hb : ∃ b, bs[i]? = some b := ⟨_, List.getElem?_eq_getElem (by omega)⟩
      obtain ⟨b, hb⟩ := hb
      refine ⟨L, bs.map V.bl, (i : Nat), .bl b, rfl, rfl, .of w2, ?_, b, rfl, ?_⟩
      · exact atI_of (ys := bs.map V.bl) (n := i) rfl (by
          unfold ixN
          rw [if_pos (by omega), if_pos (by rw [List.length_map]; omega)]
          rfl) (by rw [List.getElem?_map, hb]; rfl)
      · cases b with
        | false =>
          rw [if_neg (by decide)]
          refine ⟨w1, w2, ?_⟩
          rw [picks_succ, hb, if_neg (by decide), List.append_nil]
          exact w3
        | true =>
          rw [if_pos rfl]
          refine ⟨(i : Nat), s2, (picks c bs i).map V.int, w3, ?_, ext_upd w1 hD0, by rw [upd_ne hL]; exact w2, ?_⟩
          · rw [List.length_map, sizeLine_eq]
            have := picks_len c bs i
            omega
          · rw [upd_same]
            rw [picks_succ, hb, if_pos rfl, List.map_append]
            rfl
    · have e : i = n := by omega
      subst e
      exact .inl ⟨Nat.le_refl _, q D H1 hD0 w1 w3⟩
end
end TLH
end

-- text TH4
section
set_option Elab.async false
set_option linter.all false
set_option maxRecDepth 100000
set_option maxHeartbeats 4000000
/-! raised where nothing is handled; caught, and a def called with it -/
namespace TLH
open PySem PySem.Spec PyProof.Rows L2 L2H TL
section
variable {X : Cx} {e : Expr} {te : TE} {p pos : Pos} {c y : Str}
/-- what the making wishes: the new exception is not tracked, its dict is -/
def MadeX (C : Addr) (y : Str) (v : V) (H1 : Hp) (Q : XK) : Prop := ∀ (a d : Addr) (H' : Hp), H1 a = none → H1 d = none → d ≠ a → H' a = none → H' d = some (.xd [(y, v)]) → (∀ b, b ≠ a → b ≠ d → H' b = H1 b) → Q (.ref C) (some d) H'
def One (vs : List V) (P : V → Prop) : Prop := match vs with
  | [v] => P v
  | _ => False
theorem One.at_ {vs : List V} {P : V → Prop} (h : One vs P) : ∃ v, vs = [v] ∧ P v := by
  match vs, h with
  | [v], h => exact ⟨v, rfl, h⟩
theorem pmk_new {C fI : Addr} {fd : FuncData} (T : OexC X.K C) (iC : PySem.W.findIn X.K (.ref C) "__init__" = some (some (.ref fI))) (tI : PySem.W.typeIn X.K (.ref fI) = some (.type "function"))
    (F1 : FnOk X.prog X.w X.K X.mg X.base (L2.CX X.prog X.w) 1 fI fd ["self", y] (spI C [y])) (hr : Room 2 X.A) (hb : Binds X.K fd ["self", y] []) (hg : Gl X c) (hm : X.mg c = some (.ref C)) (he : PE X e te)
    (hdb : (c == ("__debug__" : Str)) = false := by decide) (hs : starEach [e] X.env = (false, eval e X.env) :: starEach [] X.env := by rfl) : L2N.PMk X (.Call (.Name c p) [e] [] pos) (fun σ H Q => te σ H fun v H1 => MadeX C y v H1 Q) := by
  intro pins s σ H Q I h
  obtain ⟨nm, q, N, bs, bm, sn, sub, ab, col, dd, k0, k1, k2, k3, k5, hC, hbm⟩ := T.cls
  refine wpAny_Call_Name_kw (ld_glob I hg hm (PySem.W.callWith_K (h₀ := X.base) I.ok.mod.kin T.kC (thn ((pa_cons he pa_nil hs).run pos pins s σ H (fun vs H1 => One vs fun v => MadeX C y v H1 Q) I h) ?_) hs (by rfl)) hdb)
  rintro us ⟨hp, gg, dr, tk, oo⟩ ⟨vs, H1, I1, r1, q1⟩
  refine ⟨I1.kIn, ?_⟩
  show wpAny _ _ (call (.ref C) us) _ _ _
  obtain ⟨v, rfl, q1⟩ := q1.at_
  cases r1 with
  | @cons _ u _ _ rv rr =>
    cases rr
    have hsz : hp.objs.size ≤ hp.objs.size + 1 := Nat.le_succ _
    obtain ⟨a, ha⟩ : ∃ a, hp.objs.size + 1 = a := ⟨_, rfl⟩
    have hn : H1 a = none := I1.hok.fresh (by rw [← ha]; exact hsz)
    have kk : ∀ b o, hp.get? b = some o → ((hp.push (PySem.W.kdv_tup [u])).push (PySem.HandSPX.excO C hp.objs.size)).get? b = some o := fun b o e => Heap.get?_push_of_some _ (Heap.get?_push_of_some _ e)
    have hget : ((hp.push (PySem.W.kdv_tup [u])).push (PySem.HandSPX.excO C hp.objs.size)).get? a = some (PySem.HandSPX.excO C hp.objs.size) := by
      rw [← ha]
      heap_get
    have I2 : Inv X pins σ (upd H1 a (exo a C none)) ⟨(hp.push (PySem.W.kdv_tup [u])).push (PySem.HandSPX.excO C hp.objs.size), gg, dr, tk, oo⟩ :=
      I1.laid (t' := tk) (a := a) (o := exo a C none) kk (by rw [← ha]; exact hsz) (exo_ok hget)
    have sp : spI C [y] [.ref a, v] (upd H1 a (exo a C none)) (fun w H2 => w = .non ∧ ∃ d, H2 a = some (exo a C (some d)) ∧ H2 d = some (exd d [(y, v)]) ∧ H1 d = none ∧ d ≠ a ∧ ∀ b, b ≠ a → b ≠ d → H2 b = H1 b) (fun _ _ _ => False) := by
      refine ⟨a, [v], rfl, rfl, upd_same, fun d H' hd ne hx => ⟨rfl, d, hx.2.1, hx.1, ?_, ne, fun b h1 h2 => (hx.2.2 b h1 h2).trans (upd_ne h1)⟩⟩
      rw [upd_ne ne] at hd
      exact hd
    have b2 := hb _ [.ref a, u] I2.kIn rfl
    have run := F1.run (X.A.under (.builtin "type.__call__" ⟨[.ref C, u], []⟩)) X.stack _ _ ⟨[.ref a, u], []⟩ [.ref a, u] [.ref a, v] _ (fun _ _ _ => False) (hr.make C [u] []) (I2.env0.make C [u] []) b2 (.cons rfl (.cons rv .nil)) sp
    rw [← ha] at run
    refine wpAny_call (PySem.HandSPX.call_own F.excBase_ValueError (fun Y => PySem.HandSPX.refsVE_contains Y bm hbm) (I1.kIn _ _ hC) (PySem.W.looks_findIn I1.kIn iC) (fun self => PySem.W.bind_fn I1.kIn self tI) (by show 1 ≤ sizeLine; rw [sizeLine_eq]; decide) (codeAny_mono run fun r t z => ?_))
    cases r with
    | error er =>
      obtain ⟨_, _, _, _, _, _, _, _, _, _, _, _, z⟩ := z
      exact z.elim
    | ok fl =>
      cases fl with
      | next => exact False.elim z
      | brk => exact False.elim z
      | cont => exact False.elim z
      | ret ru =>
        obtain ⟨w, H2, os2, bare2, un2, hok2, rw2, rfl, d, e1, e2, e3, e4, e5⟩ := z
        obtain ⟨h2, g2, d2, t2, oo2⟩ := t
        subst ha
        obtain ⟨t0, G, J, kG, gG, gE, nE⟩ := mk_end0 (d2 := d2) (t2 := t2) I1 hsz kk un2 hok2 os2 bare2 e1 e2 e3
        refine ⟨rw2, hp.objs.size + 1, _, _, ⟨G, g2, d2, t2, oo2⟩, _, .ref C, some d, rfl, J, kG, gG, gE, ⟨rfl, rfl, fun vs z => by
          cases z
          rfl⟩, rfl, rfl, nE, rfl, bare2, raises_own T.exC T.tyC, ?_⟩
        refine q1 _ d _ hn e3 e4 nE upd_same fun b b1 b2 => ?_
        rw [upd_ne b2, del_ne b1]
        exact e5 b b1 b2
end
/-! caught -/
theorem SJ.ints {g : Glb} {b : Bs} {H : Hp} {σ : Sg} {env : En} {F : Prs} : ∀ is : List Int, SJ g b H σ env F → SJ g b H σ env ((is.map V.int).zip (is.map D.int) ++ F)
  | [], j => j
  | i :: is, j => (SJ.ints is j).add fun _ => .int i
/-- a def that tells the kinds is (handled exceptions of the class c) -/
structure HotF (Γ : Cs) (x c : Str) (is : List Int) : Prop where
  ex : ∃ (f : Addr) (fd : FuncData) (C : Addr) (k : Nat), FnP Γ.P Γ.w Γ.g.K Γ.mg Γ.base k f fd C is ∧ Γ.mg x = some (.ref f) ∧ PySem.W.keepIn Γ.g.K (.ref f) = true ∧ Binds Γ.g.K fd ["e"] [] ∧ Γ.g.cls c = some C ∧ k ≤ Γ.k
structure ExmF (Γ : Cs) (c base : Str) : Prop where
  ex : ∃ (C D : Addr), Γ.g.cls c = some C ∧ Γ.mg base = some (.ref D) ∧ PySem.W.exmOne Γ.g.K (.ref C) (.ref D) = some true
def sHot (ix i j : Nat) (is : List Int) : MS := fun env => match env[ix]? with
  | some (some _) => if i < env.length ∧ j < env.length then .nx ((env.set j (some (.lst true (is.map D.int)))).set i none) else .bad
  | _ => .bad
section
variable {Γ : Cs} {sc : Scope} {B : List Nat} {ix i j : Nat} {is : List Int} {c y base x xe n told : Str} {px pn pc pr pb p1 p2 p3 p4 p5 p6 p7 : Pos} {X : Cx} {W : L2.WX}
theorem ps_hot (G : Good Γ sc X) (hs : X.stack = X.env :: X.outer) (hfr : X.env.frame = some X.env.locals) (hfn : X.fn = fun _ => true) (hX : ExcV Γ c [y]) (hE : ExmF Γ c base) (hH : HotF Γ x c is) (hcg : sc.names.lookup c = some .globalImplicit) (hbg : sc.names.lookup base = some .globalImplicit) (hxg : sc.names.lookup x = some .globalImplicit)
    (hNx : Γ.N[ix]? = some xe) (hvx : Vis sc xe) (hNi : Γ.N[i]? = some n) (hni : sc.names.lookup n = some .local) (hNj : Γ.N[j]? = some told) (hlj : Loc sc told) (hij : i ≠ j) (hiB : i ∉ B) (hjB : j ∉ B)
    (hdc : (c == ("__debug__" : Str)) = false := by decide) (hdb : (base == ("__debug__" : Str)) = false := by decide) (hdx : (x == ("__debug__" : Str)) = false := by decide) (hdxe : (xe == ("__debug__" : Str)) = false := by decide) (hcxe : (xe == ("__classdict__" : Str)) = false := by decide) (hdn : (n == ("__debug__" : Str)) = false := by decide) (hcn : (n == ("__classdict__" : Str)) = false := by decide) :
    PS X (.Try [.Raise (some (.Call (.Name c pc) [.Name xe px] [] pn)) none pr] [.ExceptHandler (some (.Name base pb)) (some n) [.Assign [.Name told p1] (.Call (.Name x p2) [.Name n p3] [] p4) p5] p6] [] [] p7) (rdS Γ.g W B (sHot ix i j is)) := by
  obtain ⟨C, fI, fd, h1, h2, h3, h4, h5, h6, h7, _⟩ := hX.ex
  obtain ⟨C', Db, e1, e2, e3⟩ := hE.ex
  obtain rfl : C' = C := Option.some.inj (e1.symm.trans h2)
  obtain ⟨f, fdh, C2, k, g1, g2, g3, g4, g5, g6⟩ := hH.ex
  obtain rfl : C2 = C' := Option.some.inj (g5.symm.trans h2)
  have hNd : X.N.Nodup := by rw [G.N]; exact G.nd
  have kn : X.env.kindOf n = some .local := by
    unfold Env.kindOf
    rw [G.sc]
    exact hni
  refine PS.imp (L2N.ps_try_as (c := .ref Db) (i := i) (Wout := fun _ _ _ _ => False)
    (tb := fun W' _ σ H => ∃ v, σ[ix]? = some (some v) ∧ MadeX C2 y v H (fun cls d H' => W' cls d σ H'))
    (ts := fun a cls d D σ H => cls = .ref C2 ∧ σ[i]? = some (some (.ref a)) ∧ (∃ dd vfs, d = some dd ∧ H dd = some (.xd vfs)) ∧ TellL is H fun v H' => D.nx (σ.set j (some v)) H')
    hs hfr hNd (by rw [G.N]; exact hNi) kn ⟨gl_of hbg G.sc, hdb, .inl (by rw [G.mg]; exact e2)⟩ (fun u s' ⟨_, _, _, _, _, _, _, _, _, _, _, _, _, _, _, _, z⟩ => z.elim) (fun W' pn' xe' tk _ => ?_) (fun a oe cls d pn' hz hd => ?_)) fun D σ H ⟨φ, hB, env, jj, hp, h⟩ => ?_
  · exact pss_one (L2N.ps_raise (X := X.tr pn' xe') G.calm tk (pmk_new (X := X.tr pn' xe') (by rw [G.K]; exact h3) (by rw [G.K]; exact h4) (by rw [G.K]; exact h5) (by rw [G.prog, G.w, G.K, G.mg, G.base]; exact h6) (G.room.mono hX.rm) (by rw [G.K]; exact h7) (gl_of hcg G.sc) (by rw [G.mg]; exact h1) (pe_var (X := X.tr pn' xe') (i := ix) (by rw [G.N]; exact hNx) (by rw [G.sc]; exact hvx) hdxe hcxe) hdc (by rfl)))
  · obtain ⟨vs, hd⟩ := hd
    refine PSs.imp (pss_one (ps_set (X := X.suite a ((a, oe) :: pn')) (i := j) hNd (by rw [G.N]; exact hNj) (by rw [G.sc]; exact hlj) (pe_callP (X := X.suite a ((a, oe) :: pn')) (p := (a, oe)) (i := i) (y := n) (by rw [G.prog, G.w, G.K, G.mg, G.base]; exact g1) ((roomH_mark G.room _).mono g6) ⟨rfl, vs, hd, hz.2.2 vs hd⟩ List.mem_cons_self (gl_of hxg G.sc) (by rw [G.mg]; exact g2) (by rw [G.K]; exact g3) (by rw [G.K]; exact g4) (by rw [G.N]; exact hNi) (by rw [G.sc]; exact .inl hni) hdn hcn hdx) (by rfl) (.inl (by rw [hfn])))) fun D σ H ⟨q1, q2, ⟨dd, vfs, q3, q4⟩, q5⟩ => ?_
    exact ⟨⟨q2, hz.1.trans q1, ⟨vs, hd⟩, .inr ⟨dd, vfs, hz.2.1.trans q3, q4⟩⟩, q5⟩
  · unfold sHot at h
    split at h
    · rename_i d0 hd0
      by_cases hl : i < env.length ∧ j < env.length
      · rw [if_pos hl] at h
        obtain ⟨v, hv, _⟩ := jj.get hd0
        refine ⟨v, hv, fun a d H' ha hd ne ha' hd' hH => ?_⟩
        have x1 : Ext H H' := fun b o hb => (hH b (ne_of_none hb ha) (ne_of_none hb hd)).trans hb
        refine ⟨true, by rw [G.K]; exact e3, fun _ a2 ha2 => ⟨rfl, List.getElem?_set_self (by rw [jj.len]; exact hl.1), ⟨d, _, rfl, hd'⟩, fun L H2 hL x2 hL2 => ?_⟩, fun z => nomatch z⟩
        have nL : H L = none := by
          cases z : H L with
          | none => rfl
          | some o =>
            have := x1 L o z
            rw [hL] at this
            cases this
        have j1 : SJ Γ.g φ.b (upd H L (.lst (is.map V.int))) σ env ((.ref L, .lst true (is.map TL.D.int)) :: φ.F) := SJ.newLst nL (by rw [List.length_map, List.length_map]) (SJ.ints is jj)
        have j2 := SJ.ext (H' := H2) (fun b o hb => by
          by_cases eb : b = L
          · rw [eb, upd_same] at hb
            cases hb
            rw [eb]
            exact hL2
          · rw [upd_ne eb] at hb
            exact x2 _ _ (x1 _ _ hb)) j1
        have j3 : SJ Γ.g φ.b H2 ((σ.set j (some (V.ref L))).set i none) ((env.set j (some (.lst true (is.map TL.D.int)))).set i none) φ.F := ((j2.store hl.2).forget i).resl (by rw [List.length_set]) fun k => by
          by_cases ek : i = k
          · subst ek
            exact .inl (List.getElem?_set_self (by rw [List.length_set]; exact hl.1))
          · exact .inr (List.getElem?_set_ne ek)
        have es : ((σ.set i (some (V.ref a2))).set j (some (.ref L))).set i none = (σ.set j (some (.ref L))).set i none := by
          rw [List.set_comm _ _ hij, List.set_set]
        show D.nx (((σ.set i (some (V.ref a2))).set j (some (.ref L))).set i none) H2
        rw [es]
        refine h _ _ j3 fun q m => ?_
        have qi : i ≠ q.1 := fun z => hiB (by rw [← hB, z]; exact List.mem_map_of_mem m)
        have qj : j ≠ q.1 := fun z => hjB (by rw [← hB, z]; exact List.mem_map_of_mem m)
        rw [List.getElem?_set_ne qi, List.getElem?_set_ne qj]
        exact hp q m
      · rw [if_neg hl] at h
        exact h.elim
    · exact h.elim
end
end TLH
end

-- text TN2
section
set_option Elab.async false
set_option linter.all false
set_option maxRecDepth 100000
set_option maxHeartbeats 4000000
namespace TL
open PySem PySem.Spec PyProof.Rows L2

/-! ### len of a dict too; pop without an argument, of a dict's key -/
def lenD2 (d : D) : Option D := match d with
  | .dct _ kvs => some (.int kvs.length)
  | d => lenD d
theorem call_lenDct {X : Cx} : CallR X (.builtin "len") (fun xs H Q => ∃ a kvs, xs = [.ref a] ∧ Rd H a (.dK kvs) ∧ Q (.int kvs.length) H) := by
  intro pins s σ H xs us Q I r ⟨a, kvs, e, hr, q⟩
  subst e
  obtain ⟨u, rfl, ru⟩ := r.one
  cases ru
  exact d_len I hr fun t s' I' => ⟨.int kvs.length, H, I', ⟨t, rfl⟩, q⟩
theorem b_len2 {g : Glb} : B1 g lenD2 (fun xs H Q => (∃ x n, xs = [x] ∧ LenV g.K x H n ∧ Q (.int n) H) ∨ ∃ a kvs, xs = [.ref a] ∧ Rd H a (.dK kvs) ∧ Q (.int kvs.length) H) := fun H x dx dz Q w e q => by
  cases dx with
  | dct o kvs =>
    obtain rfl := Option.some.inj e
    cases w with
    | @dct _ a es _ h hk r =>
      have hl : es.length = kvs.length := by simpa using congrArg List.length hk
      exact .inr ⟨a, es, rfl, h, by rw [hl]; exact q _ fun _ _ => .int _⟩
  | _ => exact .inl (b_len H x _ dz Q w e q)
section
variable {Γ : Cs} {sc : Scope} {p : Bool} {e : Expr} {n : Rdr} {pos apos : Pos} {x : Str}
theorem R_len2 {pn : Pos} (hB : Blt Γ sc "len" (.builtin "len")) (ha : SR Γ sc e n) (he : ∀ X : Cx, starEach [e] X.env = (false, eval e X.env) :: starEach [] X.env := by intro _; rfl) : SR Γ sc (.Call (.Name "len" pn) [e] [] pos) (rUn lenD2 n) :=
  R_b1 hB (fun X G => ⟨_, call_len.or call_lenDct, by rw [G.K]; exact b_len2⟩) ha he
def mPop0 (i : Nat) : M D := fun env => match env[i]? with
  | some (some (.lst true ds)) => (match ds[ds.length - 1]? with
    | some d => .ok d (env.set i (some (.lst true (ds.eraseIdx (ds.length - 1)))))
    | none => .bad)
  | _ => .bad
theorem drop_last {α : Type} : ∀ xs : List α, xs.dropLast = xs.eraseIdx (xs.length - 1)
  | [] => rfl
  | [_] => rfl
  | x :: y :: xs => by
    show x :: (y :: xs).dropLast = (x :: y :: xs).eraseIdx (xs.length + 1)
    rw [drop_last (y :: xs)]
    rfl
theorem E_pop0 {i : Nat} {px : Pos} (hN : Γ.N[i]? = some x) (hv : Vis sc x) (hline : (apos.endLine == pos.line) = true := by rfl) (hd : (x == ("__debug__" : Str)) = false := by decide) (hcd : (x == ("__classdict__" : Str)) = false := by decide) :
    SE Γ sc false (.Call (.Attribute (.Name x px) "pop" apos) [] [] pos) (mPop0 i) := fun X W G T =>
  PE.imp (pe_bm0 PySem.F.plainAttrs_list PySem.F.slot_list_pop PySem.F.type_list_pop mt_pop (pe_var (pos := px) (i := i) (by rw [G.N]; exact hN) (by rw [G.sc]; exact hv) hd hcd) (by rfl) hline) fun σ H Q ⟨b, env, F, jx, h⟩ => by
    unfold mPop0 at h
    split at h
    · rename_i ds e0
      split at h
      · rename_i d hj
        obtain ⟨v, h1, j1⟩ := jx.get e0
        obtain ⟨a, _, ev, _, _, _⟩ := j1.openLst
        subst ev
        obtain ⟨vs, y, h2, l2, h3, j2⟩ := j1.popAt hj
        refine ⟨.ref a, h1, .inl ⟨rfl, _, .of h2⟩, a, vs, y, rfl, rfl, h2, by rw [l2]; exact h3, ?_⟩
        have j6 := SJ.put (F := (y, d) :: F) (set_none_get e0) h1 (j2.perm (.swap ..))
        rw [set_none_set] at j6
        rw [drop_last, l2]
        exact h y _ j6 fun z => by cases z
      · exact h.elim
    · exact h.elim
def dropD (kvs : List (Key × D)) (k : Key) : List (Key × D) := kvs.filter fun kv => decide (kv.1 ≠ k)
theorem drop_keys (k : Key) : ∀ {es : List (Key × V)} {kvs : List (Key × D)}, es.map (·.1) = kvs.map (·.1) → (dropK es k).map (·.1) = (dropD kvs k).map (·.1)
  | [], [], _ => rfl
  | [], _ :: _, h => nomatch h
  | _ :: _, [], h => nomatch h
  | (k1, v) :: es, (k2, w) :: kvs, h => by
    obtain ⟨h1, h2⟩ := List.cons.inj h
    have h1 : k1 = k2 := h1
    subst h1
    have ih := drop_keys k h2
    unfold dropK dropD at ih ⊢
    by_cases e : k1 = k
    · rw [List.filter_cons_of_neg (by simp [e]), List.filter_cons_of_neg (by simp [e])]
      exact ih
    · rw [List.filter_cons_of_pos (by simp [e]), List.filter_cons_of_pos (by simp [e]), List.map_cons, List.map_cons, ih]
theorem drop_sub (k : Key) : ∀ {es : List (Key × V)} {kvs : List (Key × D)}, es.map (·.1) = kvs.map (·.1) → ∃ rest : Prs, ((es.map (·.2)).zip (kvs.map (·.2))).Perm (((dropK es k).map (·.2)).zip ((dropD kvs k).map (·.2)) ++ rest)
  | [], [], _ => ⟨[], .refl _⟩
  | [], _ :: _, h => nomatch h
  | _ :: _, [], h => nomatch h
  | (k1, v) :: es, (k2, w) :: kvs, h => by
    obtain ⟨h1, h2⟩ := List.cons.inj h
    have h1 : k1 = k2 := h1
    subst h1
    obtain ⟨rest, ih⟩ := drop_sub k h2
    unfold dropK dropD at ih ⊢
    by_cases e : k1 = k
    · rw [List.filter_cons_of_neg (by simp [e]), List.filter_cons_of_neg (by simp [e])]
      exact ⟨(v, w) :: rest, (ih.cons _).trans List.perm_middle.symm⟩
    · rw [List.filter_cons_of_pos (by simp [e]), List.filter_cons_of_pos (by simp [e])]
      exact ⟨rest, ih.cons _⟩
theorem drop_perm (k : Key) : ∀ {es : List (Key × V)} {kvs : List (Key × D)} {d : D}, es.map (·.1) = kvs.map (·.1) → kvs.lookup k = some d → ∃ v, valV es k = some v ∧ ∃ rest : Prs, ((es.map (·.2)).zip (kvs.map (·.2))).Perm ((v, d) :: (((dropK es k).map (·.2)).zip ((dropD kvs k).map (·.2)) ++ rest))
  | [], [], _, _, h => nomatch h
  | [], _ :: _, _, h, _ => nomatch h
  | _ :: _, [], _, h, _ => nomatch h
  | (k1, v) :: es, (k2, w) :: kvs, d, h, hd => by
    obtain ⟨h1, h2⟩ := List.cons.inj h
    have h1 : k1 = k2 := h1
    subst h1
    by_cases e : k1 = k
    · subst e
      simp only [List.lookup, keyBeq, decide_true] at hd
      cases hd
      obtain ⟨rest, ih⟩ := drop_sub k1 h2
      refine ⟨v, valV_pos rfl, rest, ?_⟩
      unfold dropK dropD at ih ⊢
      rw [List.filter_cons_of_neg (by simp), List.filter_cons_of_neg (by simp)]
      exact ih.cons _
    · have hd' : kvs.lookup k = some d := by
        simp only [List.lookup, keyBeq, decide_eq_false (fun z : k = k1 => e z.symm)] at hd
        exact hd
      obtain ⟨u, hu, rest, ih⟩ := drop_perm k h2 hd'
      refine ⟨u, (valV_neg e).trans hu, rest, ?_⟩
      unfold dropK dropD at ih ⊢
      rw [List.filter_cons_of_pos (by simp [e]), List.filter_cons_of_pos (by simp [e])]
      exact (ih.cons _).trans (.swap ..)
def mDPop (i : Nat) (k : Str) : M D := fun env => match env[i]? with
  | some (some (.dct true kvs)) => (match kvs.lookup (.inr k) with
    | some d => .ok d (env.set i (some (.dct true (dropD kvs (.inr k)))))
    | none => .bad)
  | _ => .bad
theorem E_dpop {i : Nat} {k : Str} {kn : Nat} {px pc : Pos} (hN : Γ.N[i]? = some x) (hv : Vis sc x) (hline : (apos.endLine == pos.line) = true := by rfl) (hd : (x == ("__debug__" : Str)) = false := by decide) (hcd : (x == ("__classdict__" : Str)) = false := by decide) :
    SE Γ sc false (.Call (.Attribute (.Name x px) "pop" apos) [.Constant (.str k) kn pc] [] pos) (mDPop i k) := fun X W G T =>
  PE.imp (pe_dpop1 (pe_var (pos := px) (i := i) (by rw [G.N]; exact hN) (by rw [G.sc]; exact hv) hd hcd) pe_str ⟨by rfl, by rfl, hline, by rfl⟩) fun σ H Q ⟨b, env, F, jx, h⟩ => by
    unfold mDPop at h
    split at h
    · rename_i kvs e0
      split at h
      · rename_i d hj
        obtain ⟨v, h1, j1⟩ := jx.get e0
        obtain ⟨a, es, ev, h2, hk, j2⟩ := j1.openDct
        subst ev
        obtain ⟨u, hu, rest, hp⟩ := drop_perm (.inr k) hk hj
        refine ⟨.ref a, h1, a, rfl, .inl ⟨es, .inl h2⟩, es, .inr k, u, h2, rfl, hu, ?_⟩
        have j3 : SJ Γ.g b H σ (env.set i none) ((.ref a, .raw) :: (((dropK es (.inr k)).map (·.2)).zip ((dropD kvs (.inr k)).map (·.2)) ++ ((u, d) :: F))) := by
          have p1 : ((.ref a, .raw) :: ((es.map (·.2)).zip (kvs.map (·.2)) ++ F) : Prs).Perm (rest ++ ((.ref a, .raw) :: (((dropK es (.inr k)).map (·.2)).zip ((dropD kvs (.inr k)).map (·.2)) ++ ((u, d) :: F)))) := by
            refine ((hp.append_right F).cons _).trans ?_
            generalize ((dropK es (.inr k)).map (·.2)).zip ((dropD kvs (.inr k)).map (·.2)) = L
            have q1 : ((u, d) :: (L ++ rest) ++ F : Prs).Perm (rest ++ (L ++ (u, d) :: F)) := by
              have q2 : ((u, d) :: (L ++ rest) ++ F : Prs).Perm ((u, d) :: (rest ++ (L ++ F))) := by
                rw [List.cons_append]
                refine List.Perm.cons _ ?_
                rw [← List.append_assoc]
                exact List.perm_append_comm.append_right F
              refine q2.trans ?_
              have q3 : (L ++ (u, d) :: F : Prs).Perm ((u, d) :: (L ++ F)) := List.perm_middle
              exact (List.perm_middle.symm.trans (List.Perm.append_left rest q3.symm))
            exact (q1.cons _).trans List.perm_middle.symm
          exact SJ.dropL (F' := rest) (j2.perm p1)
        have j4 := SJ.closeDct (drop_keys (.inr k) hk) j3
        have j6 := SJ.put (F := (u, d) :: F) (set_none_get e0) h1 j4
        rw [set_none_set] at j6
        exact h u _ j6 fun z => by cases z
      · exact h.elim
    · exact h.elim
end
end TL
end

-- text TH5
section
set_option Elab.async false
set_option linter.all false
set_option maxRecDepth 100000
set_option maxHeartbeats 4000000
namespace TLH
open PySem PySem.Spec PyProof.Rows L2 L2H TL
/-- a def's body, whose frame is the running one -/
def SSt (Γ : Cs) (sc : Scope) (B : List Nat) (sts : List Stmt) (m : MS) : Prop := ∀ X W, Good Γ sc X → Takes X W → X.fn = (fun _ => true) → X.stack = X.env :: X.outer → X.env.frame = some X.env.locals → PSs X sts (rdS Γ.g W B m)
theorem pss_seq {Γ : Cs} {B : List Nat} {X : Cx} {W : L2.WX} {st : Stmt} {rest : List Stmt} {ms mr : MS} (h : PS X st (rdS Γ.g W B ms)) (hr : PSs X rest (rdS Γ.g W B mr)) : PSs X (st :: rest) (rdS Γ.g W B (sSeq ms mr)) := PSs.imp (pss_cons h hr) fun D σ H ⟨φ, hB, env, j, hp, h⟩ => by
  refine ⟨φ, hB, env, j, hp, ?_⟩
  unfold sSeq at h
  cases q : ms env with
  | nx e =>
    rw [q] at h
    exact fun σ' H' j' hp' => ⟨φ, hB, e, j', hp', h⟩
  | rt d e => rw [q] at h; exact h
  | bk e => rw [q] at h; exact h
  | ct e => rw [q] at h; exact h
  | exc c fs e => rw [q] at h; exact h
  | bad => rw [q] at h; exact h
theorem fn_okT {Γ : Cs} {x qual : Str} {st : Stmt} {f : Addr} {fd : FuncData} {ps : List Str} {md : List Bool} {m : MS} (F : Fun Γ.g.K x qual st f fd) (S : FnScope Γ.N ps (defScope st)) (hl : ps.length = md.length) (hcd : Γ.cd = none)
    (body : SSt Γ (defScope st) (borIx md 0) (defBody st) m) : FnOk Γ.P Γ.w Γ.g.K Γ.mg Γ.base (L2.CX Γ.P Γ.w) (Γ.k + 1) f fd ps (spF Γ.g md (runF Γ.N.length (borIx md 0) m)) :=
  L2.Fun.okX F S (fun vs H Q E h => h.1.trans hl.symm) fun cdv A outer s H vs Q E hr hsp => by
    have G : Good Γ (defScope st) (cxOf (L2.CX Γ.P Γ.w) Γ.P Γ.w Γ.g.K Γ.mg Γ.base Γ.N qual (defScope st) f cdv A outer s H E) :=
      ⟨rfl, rfl, rfl, rfl, rfl, rfl, S.nd, rfl, rfl, hr, PassesOwn.leaving, fun c q h => by rw [hcd] at h; cases h⟩
    refine ⟨_, body _ (fun cls d _ H => E cls d H) G (takes_of rfl rfl rfl rfl) rfl rfl rfl, ?_⟩
    obtain ⟨h1, b, ds, qs, h2, j, h⟩ := hsp
    have hz : (borIx md 0).length = (bor md vs).length := (bor_len 0 h1).symm
    have hpv : ((borIx md 0).zip (bor md vs)).map (·.1) = borIx md 0 := zip_fst hz
    have hpw : ((borIx md 0).zip (bor md vs)).map (·.2) = bor md vs := zip_snd hz
    have pin : Pins ((borIx md 0).zip (bor md vs)) (start Γ.N vs) := pins_start (ws := []) h1
    refine ⟨⟨b, qs, (borIx md 0).zip (bor md vs)⟩, hpv, ds.map some ++ List.replicate (Γ.N.length - ds.length) none, ⟨vs.zip ds, ?_, j⟩, pin, ?_⟩
    · unfold L2.start
      rw [h2]
      exact sl_start _ h2
    · have fin : ∀ {e : En} {σ : Sg} {H' : Hp} {F' : Prs}, SJ Γ.g b H' σ e (F' ++ qs) → Pins ((borIx md 0).zip (bor md vs)) σ → JJ Γ.g b H' (F' ++ ((bor md vs).zip (outs (borIx md 0) e) ++ qs)) := fun {e σ H' F'} j hp => by
        obtain ⟨env', _, j2⟩ := SJ.outs (by rw [hpv]; exact borIx_nodup md 0) j hp
        rw [hpv, hpw] at j2
        exact j2.jj.perm zapp_perm
      unfold runF at h
      cases q : m (ds.map some ++ List.replicate (Γ.N.length - ds.length) none) with
      | nx e =>
        rw [q] at h
        exact fun σ H' j hp => h.2 .non H' (fin (F' := [(.non, .non)]) (j.add fun _ => .non) hp)
      | rt d e =>
        rw [q] at h
        exact fun v σ H' j hp => h.2 v H' (fin (F' := [(v, d)]) j hp)
      | bk e => rw [q] at h; exact h.elim
      | ct e => rw [q] at h; exact h.elim
      | exc c fs e =>
        rw [q] at h
        exact fun σ C d H' vfs a1 a2 a3 j hp => h.2 C d H' vfs a1 a2 a3 (fin j hp)
      | bad => rw [q] at h; exact h
section
variable {X : Cx} {scope : Scope} {kx : Str} {p1 p2 pos : Pos} {kn : Nat}
theorem el_name (hk : X.N[2]? = some kx) (hv : ∀ s H C cl fp, Vis (X.blk s H scope (compEnvC scope cl C X.env) fp).env.scope kx) (hd : (kx == ("__debug__" : Str)) = false := by decide) (hcd : (kx == ("__classdict__" : Str)) = false := by decide) :
    ∀ s H C cl fp, PE (X.blk s H scope (compEnvC scope cl C X.env) fp) (.Name kx p1) (fun σ H Q => ∃ i, σ[2]? = some (some (.int i)) ∧ Q (.int (0 + i)) H) := fun s H C cl fp =>
  PE.imp (pe_var (X := X.blk s H scope (compEnvC scope cl C X.env) fp) (i := 2) hk (hv s H C cl fp) hd hcd) fun σ H Q ⟨i, h1, h2⟩ => ⟨_, h1, by rw [Int.zero_add] at h2; exact h2⟩
theorem el_add {c : Int} (hk : X.N[2]? = some kx) (hv : ∀ s H C cl fp, Vis (X.blk s H scope (compEnvC scope cl C X.env) fp).env.scope kx) (hd : (kx == ("__debug__" : Str)) = false := by decide) (hcd : (kx == ("__classdict__" : Str)) = false := by decide) :
    ∀ s H C cl fp, PE (X.blk s H scope (compEnvC scope cl C X.env) fp) (.BinOp (.Constant (.int c) kn p1) .Add (.Name kx p2) pos) (fun σ H Q => ∃ i, σ[2]? = some (some (.int i)) ∧ Q (.int (c + i)) H) := fun s H C cl fp =>
  PE.imp (pe_op op_add pe_int (pe_var (X := X.blk s H scope (compEnvC scope cl C X.env) fp) (i := 2) hk (hv s H C cl fp) hd hcd)) fun σ H Q ⟨i, h1, h2⟩ => ⟨_, h1, c, i, rfl, rfl, h2⟩
end
theorem HotF.N {Γ : Cs} {x c : Str} {is : List Int} {N : List Str} (h : HotF Γ x c is) : HotF { Γ with N := N } x c is := ⟨h.ex⟩
theorem ExmF.N {Γ : Cs} {c b : Str} {N : List Str} (h : ExmF Γ c b) : ExmF { Γ with N := N } c b := ⟨h.ex⟩
def exmB (K : PySem.W.Frag) (c b : Str) : Bool := match PySem.W.exmOne K (.ref (He.ga K c)) (.ref (He.ga K b)) with
  | some t => t
  | none => false
theorem exmB_ok {K : PySem.W.Frag} {c b : Str} (h : exmB K c b = true) : PySem.W.exmOne K (.ref (He.ga K c)) (.ref (He.ga K b)) = some true := by
  unfold exmB at h
  split at h
  · rename_i t e
    rw [e, h]
  · cases h
end TLH
end

-- text TN3
section
set_option Elab.async false
set_option linter.all false
set_option maxRecDepth 100000
set_option maxHeartbeats 4000000
namespace TL
open PySem PySem.Spec PyProof.Rows L2

/-! ### names let go at the end, of a return too; two dicts of plain things, the same -/
def sForgetR (is : List Nat) (m : MS) : MS := fun env => match m env with
  | .nx e => .nx (is.foldl (fun e i => e.set i none) e)
  | .rt d e => .rt d (is.foldl (fun e i => e.set i none) e)
  | r => r
theorem SSs_forgetR {Γ : Cs} {sc : Scope} {B : List Nat} {sts : List Stmt} {m : MS} {is : List Nat} (h : SSs Γ sc B sts m) : SSs Γ sc B sts (sForgetR is m) := fun X W G T hf => PSs.imp (h X W G T hf) fun D σ H ⟨φ, hB, env, j, hp, h⟩ => by
  refine ⟨φ, hB, env, j, hp, ?_⟩
  unfold sForgetR at h
  cases q : m env with
  | nx e =>
    rw [q] at h
    exact fun σ' H' j' hp' => h σ' H' (SJ.forgetL is j') hp'
  | rt d e =>
    rw [q] at h
    exact fun v σ' H' j' hp' => h v σ' H' (SJ.forgetL is j') hp'
  | bk e => rw [q] at h; exact h
  | ct e => rw [q] at h; exact h
  | exc c fs e => rw [q] at h; exact h
  | bad => rw [q] at h; exact h
/-- both dicts owned; each of the first's items is in the second -/
def eqK (x y : D) : Option D := match x, y with
  | .dct true ks, .dct true ls => if ks.length = ls.length ∧ (ks.all fun kv => isAt kv.2 && (match ls.lookup kv.1 with
    | some d => isAt d && decide (vOf d = vOf kv.2)
    | none => false)) = true then some (.bl true) else none
  | _, _ => none
section
variable {Γ : Cs} {sc : Scope} {a c : Expr} {na nb : Rdr} {pos : Pos}
theorem Lk.dctT {g : Glb} {b : Bs} {H : Hp} {σ : Sg} {env : En} {F : Prs} {v : V} {gs : List (Key × D)} (k : Lk g b H σ env F v (.dct true gs)) : ∃ a fs, v = .ref a ∧ H a = some (.dK fs) ∧ fs.map (·.1) = gs.map (·.1) ∧ VwL g H (fs.map (·.2)) (gs.map (·.2)) := by
  obtain ⟨ps, A, B, h1, h2, h3, h4, h5, h6⟩ := k
  cases h6 with
  | dctO h he r => exact ⟨_, _, rfl, h, he, r.vw⟩
theorem vwL_lookup {g : Glb} {H : Hp} (k : Key) : ∀ {fs : List (Key × V)} {gs : List (Key × D)} {d : D}, fs.map (·.1) = gs.map (·.1) → VwL g H (fs.map (·.2)) (gs.map (·.2)) → gs.lookup k = some d → ∃ u, valV fs k = some u ∧ Vw g H u d
  | [], [], _, _, _, h => nomatch h
  | [], _ :: _, _, h, _, _ => nomatch h
  | _ :: _, [], _, h, _, _ => nomatch h
  | (k1, v) :: fs, (k2, w) :: gs, d, h, r, hd => by
    obtain ⟨h1, h2⟩ := List.cons.inj h
    have h1 : k1 = k2 := h1
    subst h1
    cases r with
    | cons rv rr =>
      by_cases e : k1 = k
      · subst e
        simp only [List.lookup, keyBeq, decide_true] at hd
        cases hd
        exact ⟨v, valV_pos rfl, rv⟩
      · simp only [List.lookup, keyBeq, decide_eq_false (fun z : k = k1 => e z.symm)] at hd
        obtain ⟨u, hu, ru⟩ := vwL_lookup k h2 rr hd
        exact ⟨u, (valV_neg e).trans hu, ru⟩
theorem vwL_mem {g : Glb} {H : Hp} : ∀ {fs : List (Key × V)} {gs : List (Key × D)} {p : Key × V}, fs.map (·.1) = gs.map (·.1) → VwL g H (fs.map (·.2)) (gs.map (·.2)) → p ∈ fs → ∃ q ∈ gs, q.1 = p.1 ∧ Vw g H p.2 q.2
  | [], [], _, _, _, h => nomatch h
  | [], _ :: _, _, h, _, _ => nomatch h
  | _ :: _, [], _, h, _, _ => nomatch h
  | (k1, v) :: fs, (k2, w) :: gs, p, h, r, hp => by
    obtain ⟨h1, h2⟩ := List.cons.inj h
    cases r with
    | cons rv rr =>
      rcases List.mem_cons.mp hp with rfl | hp
      · exact ⟨(k2, w), List.mem_cons_self, h1.symm, rv⟩
      · obtain ⟨q, hq, e, rq⟩ := vwL_mem h2 rr hp
        exact ⟨q, List.mem_cons_of_mem _ hq, e, rq⟩
theorem flatB_at {d : D} (h : isAt d = true) : flatB (vOf d) = true := by cases d <;> first | rfl | cases h
theorem SR_eqK (ha : SR Γ sc a na) (hb : SR Γ sc c nb) (hm : behindInMarks .Eq c = false) : SR Γ sc (.Compare a [.Eq] [c] pos) (rBin eqK na nb) := fun X G =>
  PE.imp (pe_cmpR (op_eq_dictA (by have := G.hu; omega)) (ha X G) (hb X G) hm) fun σ H Q ⟨b, env, F, z, j, hd, h⟩ => by
    unfold rBin at hd
    split at hd
    · rename_i x y h1 h3
      have h4 := hd
      unfold eqK at h4
      split at h4
      · rename_i ks ls
        split at h4
        · rename_i hc
          cases h4
          obtain ⟨hl, hall⟩ := hc
          refine ⟨b, env, F, _, j, h1, fun u ku => ⟨b, env, F, _, j, h3, fun w kw => ?_⟩⟩
          obtain ⟨p, fs, rfl, hp, ek, vk⟩ := ku.dctT
          obtain ⟨q, gs, rfl, hq, el, vl⟩ := kw.dctT
          have l1 : fs.length = ks.length := by simpa using congrArg List.length ek
          have l2 : gs.length = ls.length := by simpa using congrArg List.length el
          refine ⟨p, q, fs, gs, rfl, rfl, hp, hq, by rw [l1, l2, hl], fun kv m => ?_, h _ (Lk.add (fun _ _ => .bl true) j)⟩
          obtain ⟨kd, hm1, e1, v1⟩ := vwL_mem ek vk m
          have := List.all_eq_true.mp hall kd hm1
          obtain ⟨t1, t2⟩ := Bool.and_eq_true_iff.mp this
          cases ql : ls.lookup kd.1 with
          | none => rw [ql] at t2; cases t2
          | some d =>
            rw [ql] at t2
            obtain ⟨t3, t4⟩ := Bool.and_eq_true_iff.mp t2
            obtain ⟨u', hu', vu'⟩ := vwL_lookup kd.1 el vl ql
            have e2 := vw_at t3 vu'
            have e3 := vw_at t1 v1
            have e4 := of_decide_eq_true t4
            rw [e3, ← e1, hu', e2, e4]
            exact ⟨rfl, flatB_at t1⟩
        · cases h4
      · cases h4
    · cases hd
end
end TL
end

-- text TH6
section
set_option Elab.async false
set_option linter.all false
set_option maxRecDepth 100000
set_option maxHeartbeats 4000000
namespace TLH
open PySem PySem.Spec PyProof.Rows L2 L2H TL
theorem start_0 {N : List Str} {v : V} : (L2.start N [v])[0]? = some (some v) := rfl
/-- a def that puts the lists of two others together -/
theorem fnP_cat {P : Program} {w : World} {K : PySem.W.Frag} {mg : Str → Option Value} {base : Heap} {f f1 f2 C : Addr} {is1 is2 : List Int} {fd1 fd2 : FuncData} {name qual x1 x2 y : Str} {params : Arguments} {scope : Scope} {dV kV doc pm cdv ct oc : Value} {an od : Option Addr} {osl : Array (Option Value)} {N : List Str} {q1 q2 q3 q4 q5 q6 q7 q8 : Pos}
    (lk : K.lookup f = some ⟨oc, od, .func (PySem.W.fnOf name qual params [.Return (some (.BinOp (.Call (.Name x1 q1) [.Name y q2] [] q3) .Add (.Call (.Name x2 q4) [.Name y q5] [] q6) q7)) q8] scope dV kV doc pm an cdv ct), osl⟩) (hcd : PySem.W.codeIn K cdv qual = true) (S : FnScope N ["e"] scope)
    (F1 : FnP P w K mg base 1 f1 fd1 C is1) (F2 : FnP P w K mg base 1 f2 fd2 C is2) (m1 : mg x1 = some (.ref f1)) (m2 : mg x2 = some (.ref f2)) (k1 : PySem.W.keepIn K (.ref f1) = true) (k2 : PySem.W.keepIn K (.ref f2) = true) (b1 : Binds K fd1 ["e"] []) (b2 : Binds K fd2 ["e"] [])
    (g1 : scope.names.lookup x1 = some .globalImplicit) (g2 : scope.names.lookup x2 = some .globalImplicit) (hy : N[0]? = some y) (hv : Vis scope y) (hl : is1.length + is2.length ≤ 100)
    (hd : (y == ("__debug__" : Str)) = false) (hcdy : (y == ("__classdict__" : Str)) = false) (hd1 : (x1 == ("__debug__" : Str)) = false) (hd2 : (x2 == ("__debug__" : Str)) = false) :
    FnP P w K mg base 2 f (PySem.W.fnOf name qual params [.Return (some (.BinOp (.Call (.Name x1 q1) [.Name y q2] [] q3) .Add (.Call (.Name x2 q4) [.Name y q5] [] q6) q7)) q8] scope dV kV doc pm an cdv ct) C (is1 ++ is2) :=
  fnP_of lk hcd S fun A outer s H Q p hot hx hr hq => by
    let X := cxH (L2.CX P w) P w K mg base N qual scope f cdv A outer s H (fun _ _ _ => False) p
    have c1 : PE X (.Call (.Name x1 q1) [.Name y q2] [] q3) (tHot 0 p C is1) := pe_callP (X := X) F1 hr hot List.mem_cons_self (gl_of g1 rfl) m1 k1 b1 hy hv hd hcdy hd1
    have c2 : PE X (.Call (.Name x2 q4) [.Name y q5] [] q6) (tHot 0 p C is2) := pe_callP (X := X) F2 hr hot List.mem_cons_self (gl_of g2 rfl) m2 k2 b2 hy hv hd hcdy hd2
    refine ⟨_, pss_one (ps_ret (pe_op (X := X) op_catL c1 c2)), ⟨⟨?_, hx⟩, fun L1 H1 n1 e1 h1 => ⟨⟨?_, XObj.ext e1 hx⟩, fun L2' H2 n2 e2 h2 => ⟨L1, L2', is1.map V.int, is2.map V.int, rfl, rfl, .of (e2 _ _ h1), .of h2, by rw [List.length_map, List.length_map, sizeLine_eq]; omega, fun q hn => ?_⟩⟩⟩⟩
    · exact start_0
    · exact start_0
    · have nq : H q = none := by
        cases z : H q with
        | none => rfl
        | some o =>
          have := e2 q o (e1 q o z)
          rw [hn] at this
          cases this
      exact hq q _ nq (ext_upd (fun b o z => e2 _ _ (e1 _ _ z)) nq) (by rw [upd_same, List.map_append])
end TLH
end

-- text K00m
section
set_option Elab.async false
set_option linter.all false
set_option maxRecDepth 100000
set_option maxHeartbeats 4000000
namespace LK
open PySem PySem.Spec PyProof.Rows L2 TL
abbrev excls : List Str := [("RunError" : Str), ("BadOther" : Str), ("BadExpression" : Str), ("BadValues" : Str), ("BadProcs" : Str), ("BadName" : Str), ("BadProcedure" : Str), ("BadProgram" : Str), ("BadExpressionText" : Str), ("BadProgramText" : Str), ("BadLine" : Str), ("BadPoint" : Str), ("BadInputs" : Str), ("BadStanding" : Str), ("BadChoice" : Str), ("BadChoices" : Str), ("BadMost" : Str), ("BadArgs" : Str), ("BadAnswer" : Str), ("BadPaperText" : Str), ("BadTold" : Str), ("BadOrder" : Str), ("BadPlace" : Str), ("BadSpot" : Str), ("BadLineNumber" : Str), ("BadRuns" : Str), ("Ended" : Str)]
abbrev fld_answer : List Str := [("BadAnswer" : Str)]
abbrev fld_choice : List Str := [("BadChoice" : Str)]
abbrev fld_expression : List Str := [("BadExpression" : Str)]
abbrev fld_f : List Str := [("BadName" : Str)]
abbrev fld_given : List Str := [("BadValues" : Str), ("BadArgs" : Str)]
abbrev fld_index : List Str := [("BadProcs" : Str), ("BadChoices" : Str), ("BadOrder" : Str), ("BadRuns" : Str)]
abbrev fld_inputs : List Str := [("BadInputs" : Str)]
abbrev fld_line : List Str := [("BadProgramText" : Str), ("BadLine" : Str), ("BadPaperText" : Str), ("BadLineNumber" : Str)]
abbrev fld_most : List Str := [("BadMost" : Str)]
abbrev fld_outcome : List Str := [("Ended" : Str)]
abbrev fld_part : List Str := [("BadSpot" : Str)]
abbrev fld_place : List Str := [("BadPlace" : Str), ("BadSpot" : Str)]
abbrev fld_point : List Str := [("BadPoint" : Str)]
abbrev fld_procedure : List Str := [("BadProcedure" : Str)]
abbrev fld_program : List Str := [("BadProgram" : Str)]
abbrev fld_standing : List Str := [("BadStanding" : Str)]
abbrev fld_text : List Str := [("BadExpressionText" : Str)]
abbrev fld_told : List Str := [("BadTold" : Str)]
abbrev N__law_start : List Str := ["script"]
noncomputable def m__law_start (C : Orc) : MS :=
  (sRet (mLst (mCons (mB fList (mCons (mGet 0) mNil)) (mCons (mCp (rC (.int 0))) (mCons (mCp (rC (.int 0))) (mCons (mCp (rC (.int 29))) mNil))))))
abbrev N__law_pick : List Str := ["state", "many", "mixed", "cell", "digit"]
noncomputable def m__law_pick (C : Orc) : MS :=
  (sSeq (sSto 0 (mCp (rBin addA (rBin itD (rN 0) (rC (.int 2))) (rC (.int 1)))) (mCp (rC (.int 2))))
  (sSeq (loopW (mAndT (mRT eqD (rBin itD (rN 0) (rC (.int 1))) (rC (.int 0))) (mTru (mBin neD (mR (rBin itD (rN 0) (rC (.int 0)))) (mLst mNil)))) (sSeq (sSet 3 (mV1 absD (mPopIn 0 0 0)))
  (sSeq (sSto 0 (mCp (rBin modD (rUn intD (rBin addA (rBin addA (rBin mulD (rBin itD (rN 0) (rC (.int 3))) (rC (.int 6151))) (rN 3)) (rC (.int 5)))) (rC (.int 2147483647)))) (mCp (rC (.int 3))))
  (sSto 0 (mIf (mRT geD (rN 3) (rBin powD (rC (.int 10)) (rC (.int 18)))) (mGet 3) (mCp (rC (.int 0)))) (mCp (rC (.int 1)))))) fuel0)
  (sSeq (sIf (mRT gtD (rBin itD (rN 0) (rC (.int 1))) (rC (.int 0))) (sSeq (sSet 4 (mCp (rBin modD (rUn intD (rBin itD (rN 0) (rC (.int 1)))) (rN 1))))
  (sSeq (sSto 0 (mCp (rBin divD (rBin itD (rN 0) (rC (.int 1))) (rN 1))) (mCp (rC (.int 1))))
  (sRet (mMov 4)))) sPass)
  (sSeq (sSet 2 (mCp (rBin modD (rUn intD (rBin powD (rBin addA (rBin addA (rBin itD (rN 0) (rC (.int 3))) (rBin mulD (rC (.int 7907)) (rBin itD (rN 0) (rC (.int 2))))) (rC (.int 104723))) (rC (.int 5)))) (rC (.int 2147483629)))))
  (sRet (mCp (rBin modD (rBin modD (rUn intD (rBin powD (rBin addA (rBin addA (rBin mulD (rN 2) (rC (.int 48271))) (rBin mulD (rC (.int 30011)) (rBin itD (rN 0) (rC (.int 2))))) (rC (.int 31))) (rC (.int 3)))) (rC (.int 1000000007))) (rN 1))))))))
abbrev N__law_between : List Str := ["state", "low", "high"]
noncomputable def m__law_between (C : Orc) : MS :=
  (sRet (mBin addC (mGet 1) (mCall (C "_law_pick") [true, false] [some 0, none] (mCons (mMov 0) (mCons (mBin addC (mB fMax2 (mCons (mCp (rBin subD (rN 2) (rN 1))) (mCons (mCp (rC (.int 0))) mNil))) (mCp (rC (.int 1)))) mNil)))))
abbrev N__law_kinds_first : List Str := ["e", "told", "k"]
noncomputable def m__law_kinds_first (C : Orc) : MS :=
  (sSeq (sSet 1 (mLst (mCons (mCp (rUn (isXD excls ["BadExpression"] isTab) (rN 0))) (mCons (mCp (rUn (isXD excls ["BadValues"] isTab) (rN 0))) (mCons (mCp (rUn (isXD excls ["BadProcs"] isTab) (rN 0))) (mCons (mCp (rUn (isXD excls ["BadName"] isTab) (rN 0))) mNil))))))
  (sSeq (sDo (mChg 1 kExt (mLst (mCons (mCp (rUn (isXD excls ["BadProcedure"] isTab) (rN 0))) (mCons (mCp (rUn (isXD excls ["BadProgram"] isTab) (rN 0))) (mCons (mCp (rUn (isXD excls ["BadExpressionText"] isTab) (rN 0))) (mCons (mCp (rUn (isXD excls ["BadProgramText"] isTab) (rN 0))) mNil)))))))
  (sSeq (sDo (mChg 1 kExt (mLst (mCons (mCp (rUn (isXD excls ["BadLine"] isTab) (rN 0))) (mCons (mCp (rUn (isXD excls ["BadPoint"] isTab) (rN 0))) (mCons (mCp (rUn (isXD excls ["BadInputs"] isTab) (rN 0))) (mCons (mCp (rUn (isXD excls ["BadStanding"] isTab) (rN 0))) mNil)))))))
  (sRet (mLc (mIt rng1 (mCons (mCp (rC (.int 12))) mNil)) [2] (tgN 2) (mTru (mR (rBin itD (rN 1) (rN 2)))) (mCp (rBin addA (rC (.int 0)) (rN 2))))))))
abbrev N__law_kinds_last : List Str := ["e", "told", "k"]
noncomputable def m__law_kinds_last (C : Orc) : MS :=
  (sSeq (sSet 1 (mLst (mCons (mCp (rUn (isXD excls ["BadChoice"] isTab) (rN 0))) (mCons (mCp (rUn (isXD excls ["BadChoices"] isTab) (rN 0))) (mCons (mCp (rUn (isXD excls ["BadMost"] isTab) (rN 0))) (mCons (mCp (rUn (isXD excls ["BadArgs"] isTab) (rN 0))) mNil))))))
  (sSeq (sDo (mChg 1 kExt (mLst (mCons (mCp (rUn (isXD excls ["BadAnswer"] isTab) (rN 0))) (mCons (mCp (rUn (isXD excls ["BadPaperText"] isTab) (rN 0))) (mCons (mCp (rUn (isXD excls ["BadTold"] isTab) (rN 0))) (mCons (mCp (rUn (isXD excls ["BadOrder"] isTab) (rN 0))) mNil)))))))
  (sSeq (sDo (mChg 1 kExt (mLst (mCons (mCp (rUn (isXD excls ["BadPlace"] isTab) (rN 0))) (mCons (mCp (rUn (isXD excls ["BadLineNumber"] isTab) (rN 0))) (mCons (mCp (rUn (isXD excls ["BadRuns"] isTab) (rN 0))) (mCons (mCp (rUn (isXD excls ["Ended"] isTab) (rN 0))) mNil)))))))
  (sRet (mLc (mIt rng1 (mCons (mCp (rC (.int 12))) mNil)) [2] (tgN 2) (mTru (mR (rBin itD (rN 1) (rN 2)))) (mCp (rBin addA (rC (.int 12)) (rN 2))))))))
abbrev N__law_kinds : List Str := ["e"]
noncomputable def m__law_kinds (C : Orc) : MS :=
  (sRet (mBin addC (mCall (C "_law_kinds_first") [false] [none] (mCons (mGet 0) mNil)) (mCall (C "_law_kinds_last") [false] [none] (mCons (mGet 0) mNil))))
abbrev N__law_form_made : List Str := ["at", "x", "made"]
noncomputable def m__law_form_made (C : Orc) : MS :=
  (sSeq (sIf (mRT eqD (rN 0) (rC (.int 0))) (sSeq (sSet 2 (mExn "BadExpression" ["expression"] (mCons (mGet 1) mNil)))
  (sRet (mTup (mCons (mGet 2) (mCons (mCp (rXat fld_expression "expression" (rN 2))) mNil))))) sPass)
  (sSeq (sIf (mRT eqD (rN 0) (rC (.int 1))) (sSeq (sSet 2 (mExnK "BadValues" ["given"] [0] (mCons (mGet 1) mNil)))
  (sRet (mTup (mCons (mGet 2) (mCons (mCp (rXat fld_given "given" (rN 2))) mNil))))) sPass)
  (sSeq (sIf (mRT eqD (rN 0) (rC (.int 2))) (sSeq (sSet 2 (mExn "BadProcs" ["index"] (mCons (mGet 1) mNil)))
  (sRet (mTup (mCons (mGet 2) (mCons (mCp (rXat fld_index "index" (rN 2))) mNil))))) sPass)
  (sSeq (sIf (mRT eqD (rN 0) (rC (.int 3))) (sSeq (sSet 2 (mExn "BadName" ["f"] (mCons (mGet 1) mNil)))
  (sRet (mTup (mCons (mGet 2) (mCons (mCp (rXat fld_f "f" (rN 2))) mNil))))) sPass)
  (sSeq (sIf (mRT eqD (rN 0) (rC (.int 4))) (sSeq (sSet 2 (mExnK "BadProcedure" ["procedure"] [0] (mCons (mGet 1) mNil)))
  (sRet (mTup (mCons (mGet 2) (mCons (mCp (rXat fld_procedure "procedure" (rN 2))) mNil))))) sPass)
  (sSeq (sIf (mRT eqD (rN 0) (rC (.int 5))) (sSeq (sSet 2 (mExn "BadProgram" ["program"] (mCons (mGet 1) mNil)))
  (sRet (mTup (mCons (mGet 2) (mCons (mCp (rXat fld_program "program" (rN 2))) mNil))))) sPass)
  (sSeq (sIf (mRT eqD (rN 0) (rC (.int 6))) (sSeq (sSet 2 (mExn "BadExpressionText" ["text"] (mCons (mGet 1) mNil)))
  (sRet (mTup (mCons (mGet 2) (mCons (mCp (rXat fld_text "text" (rN 2))) mNil))))) sPass)
  (sSeq (sSet 2 (mExnK "BadProgramText" ["line"] [0] (mCons (mGet 1) mNil)))
  (sRet (mTup (mCons (mGet 2) (mCons (mCp (rXat fld_line "line" (rN 2))) mNil))))))))))))
abbrev N__law_text_made : List Str := ["at", "x", "made"]
noncomputable def m__law_text_made (C : Orc) : MS :=
  (sSeq (sIf (mRT eqD (rN 0) (rC (.int 8))) (sSeq (sSet 2 (mExn "BadLine" ["line"] (mCons (mGet 1) mNil)))
  (sRet (mTup (mCons (mGet 2) (mCons (mCp (rXat fld_line "line" (rN 2))) mNil))))) sPass)
  (sSeq (sIf (mRT eqD (rN 0) (rC (.int 9))) (sSeq (sSet 2 (mExnK "BadPoint" ["point"] [0] (mCons (mGet 1) mNil)))
  (sRet (mTup (mCons (mGet 2) (mCons (mCp (rXat fld_point "point" (rN 2))) mNil))))) sPass)
  (sSeq (sIf (mRT eqD (rN 0) (rC (.int 10))) (sSeq (sSet 2 (mExn "BadInputs" ["inputs"] (mCons (mGet 1) mNil)))
  (sRet (mTup (mCons (mGet 2) (mCons (mCp (rXat fld_inputs "inputs" (rN 2))) mNil))))) sPass)
  (sSeq (sIf (mRT eqD (rN 0) (rC (.int 11))) (sSeq (sSet 2 (mExn "BadStanding" ["standing"] (mCons (mGet 1) mNil)))
  (sRet (mTup (mCons (mGet 2) (mCons (mCp (rXat fld_standing "standing" (rN 2))) mNil))))) sPass)
  (sSeq (sIf (mRT eqD (rN 0) (rC (.int 12))) (sSeq (sSet 2 (mExnK "BadChoice" ["choice"] [0] (mCons (mGet 1) mNil)))
  (sRet (mTup (mCons (mGet 2) (mCons (mCp (rXat fld_choice "choice" (rN 2))) mNil))))) sPass)
  (sSeq (sIf (mRT eqD (rN 0) (rC (.int 13))) (sSeq (sSet 2 (mExn "BadChoices" ["index"] (mCons (mGet 1) mNil)))
  (sRet (mTup (mCons (mGet 2) (mCons (mCp (rXat fld_index "index" (rN 2))) mNil))))) sPass)
  (sSeq (sIf (mRT eqD (rN 0) (rC (.int 14))) (sSeq (sSet 2 (mExn "BadMost" ["most"] (mCons (mGet 1) mNil)))
  (sRet (mTup (mCons (mGet 2) (mCons (mCp (rXat fld_most "most" (rN 2))) mNil))))) sPass)
  (sSeq (sSet 2 (mExnK "BadArgs" ["given"] [0] (mCons (mGet 1) mNil)))
  (sRet (mTup (mCons (mGet 2) (mCons (mCp (rXat fld_given "given" (rN 2))) mNil))))))))))))
abbrev N__law_other_made : List Str := ["at", "x", "made"]
noncomputable def m__law_other_made (C : Orc) : MS :=
  (sSeq (sIf (mRT eqD (rN 0) (rC (.int 16))) (sSeq (sSet 2 (mExn "BadAnswer" ["answer"] (mCons (mGet 1) mNil)))
  (sRet (mTup (mCons (mGet 2) (mCons (mCp (rXat fld_answer "answer" (rN 2))) mNil))))) sPass)
  (sSeq (sIf (mRT eqD (rN 0) (rC (.int 17))) (sSeq (sSet 2 (mExnK "BadPaperText" ["line"] [0] (mCons (mGet 1) mNil)))
  (sRet (mTup (mCons (mGet 2) (mCons (mCp (rXat fld_line "line" (rN 2))) mNil))))) sPass)
  (sSeq (sIf (mRT eqD (rN 0) (rC (.int 18))) (sSeq (sSet 2 (mExn "BadTold" ["told"] (mCons (mGet 1) mNil)))
  (sRet (mTup (mCons (mGet 2) (mCons (mCp (rXat fld_told "told" (rN 2))) mNil))))) sPass)
  (sSeq (sIf (mRT eqD (rN 0) (rC (.int 19))) (sSeq (sSet 2 (mExn "BadOrder" ["index"] (mCons (mGet 1) mNil)))
  (sRet (mTup (mCons (mGet 2) (mCons (mCp (rXat fld_index "index" (rN 2))) mNil))))) sPass)
  (sSeq (sIf (mRT eqD (rN 0) (rC (.int 20))) (sSeq (sSet 2 (mExnK "BadPlace" ["place"] [0] (mCons (mGet 1) mNil)))
  (sRet (mTup (mCons (mGet 2) (mCons (mCp (rXat fld_place "place" (rN 2))) mNil))))) sPass)
  (sSeq (sIf (mRT eqD (rN 0) (rC (.int 21))) (sSeq (sSet 2 (mExn "BadLineNumber" ["line"] (mCons (mGet 1) mNil)))
  (sRet (mTup (mCons (mGet 2) (mCons (mCp (rXat fld_line "line" (rN 2))) mNil))))) sPass)
  (sSeq (sIf (mRT eqD (rN 0) (rC (.int 22))) (sSeq (sSet 2 (mExn "BadRuns" ["index"] (mCons (mGet 1) mNil)))
  (sRet (mTup (mCons (mGet 2) (mCons (mCp (rXat fld_index "index" (rN 2))) mNil))))) sPass)
  (sSeq (sSet 2 (mExnK "Ended" ["outcome"] [0] (mCons (mGet 1) mNil)))
  (sRet (mTup (mCons (mGet 2) (mCons (mCp (rXat fld_outcome "outcome" (rN 2))) mNil))))))))))))
abbrev N__law_made_at : List Str := ["at", "x"]
noncomputable def m__law_made_at (C : Orc) : MS :=
  (sSeq (sIf (mRT ltD (rN 0) (rC (.int 8))) (sRet (mCall (C "_law_form_made") [false, false] [none, none] (mCons (mGet 0) (mCons (mGet 1) mNil)))) sPass)
  (sRet (mIf (mRT ltD (rN 0) (rC (.int 16))) (mCall (C "_law_text_made") [false, false] [none, none] (mCons (mGet 0) (mCons (mGet 1) mNil))) (mCall (C "_law_other_made") [false, false] [none, none] (mCons (mGet 0) (mCons (mGet 1) mNil))))))
abbrev N__law_object : List Str := ["state", "way"]
noncomputable def m__law_object (C : Orc) : MS :=
  (sSeq (sSet 1 (mCall (C "_law_pick") [true, false] [some 0, none] (mCons (mMov 0) (mCons (mCp (rC (.int 7))) mNil))))
  (sSeq (sIf (mRT ltD (rN 1) (rC (.int 2))) (sRet (mSub (mLst (mCons (mCall (C "_law_between") [true, false, false] [some 0, none, none] (mCons (mMov 0) (mCons (mCp (rUn negD (rC (.int 9)))) (mCons (mCp (rC (.int 9))) mNil)))) (mCons (mBin addC (mCp (rC (.str "w"))) (mV1 strD (mCall (C "_law_pick") [true, false] [some 0, none] (mCons (mMov 0) (mCons (mCp (rC (.int 99))) mNil))))) mNil))) (mGet 1))) sPass)
  (sSeq (sIf (mRT ltD (rN 1) (rC (.int 5))) (sRet (mSub (mLst (mCons (mCp (rC .non)) (mCons (mBin eqD (mCall (C "_law_pick") [true, false] [some 0, none] (mCons (mMov 0) (mCons (mCp (rC (.int 2))) mNil))) (mR (rC (.int 0)))) (mCons (mTup (mCons (mCp (rC (.int 1))) (mCons (mCall (C "_law_pick") [true, false] [some 0, none] (mCons (mMov 0) (mCons (mCp (rC (.int 9))) mNil))) mNil))) mNil)))) (mCp (rBin subD (rN 1) (rC (.int 2)))))) sPass)
  (sRet (mIf (mRT eqD (rN 1) (rC (.int 5))) (mLst (mCons (mCall (C "_law_pick") [true, false] [some 0, none] (mCons (mMov 0) (mCons (mCp (rC (.int 9))) mNil))) (mCons (mLst (mCons (mCp (rC (.int 1))) mNil)) mNil))) (mDct [((mCp (rC (.str "a"))), (mCall (C "_law_pick") [true, false] [some 0, none] (mCons (mMov 0) (mCons (mCp (rC (.int 9))) mNil))))]))))))
abbrev N__law_very : List Str := ["found", "due", "same"]
noncomputable def m__law_very (C : Orc) : MS :=
  (sSeq (sIf (mTru (mR (rUn (isiD ["list"]) (rA 1)))) (sSeq (sAl 1 (sDo (mChg 1 kApp (mCp (rC (.str "more"))))))
  (sSeq (sSet 2 (mAnd (mCp (rUn (isiD ["list"]) (rH 1 (rN 0)))) (mAnd (mCp (rBin eqD (rUn lenD2 (rH 1 (rN 0))) (rUn lenD2 (rA 1)))) (mCp (rBin eqD (rBin itD (rH 1 (rN 0)) (rUn negD (rC (.int 1)))) (rC (.str "more")))))))
  (sSeq (sAl 1 (sDo (mPop0 1)))
  (sRet (mAnd (mGet 2) (mAnd (mCp (rUn (isiD ["list"]) (rH 1 (rN 0)))) (mCp (rBin eqD (rH 1 (rN 0)) (rA 1))))))))) sPass)
  (sSeq (sIf (mTru (mR (rUn (isiD ["dict"]) (rA 1)))) (sSeq (sAl 1 (sSto 1 (mCp (rC (.int 1))) (mCp (rC (.str "more")))))
  (sSeq (sSet 2 (mAnd (mCp (rUn (isiD ["dict"]) (rH 1 (rN 0)))) (mAnd (mCp (rBin inD (rC (.str "more")) (rH 1 (rN 0)))) (mCp (rBin eqD (rUn lenD2 (rH 1 (rN 0))) (rUn lenD2 (rA 1)))))))
  (sSeq (sAl 1 (sDo (mDPop 1 "more")))
  (sRet (mAnd (mGet 2) (mAnd (mCp (rUn (isiD ["dict"]) (rH 1 (rN 0)))) (mCp (rBin eqK (rH 1 (rN 0)) (rA 1))))))))) sPass)
  (sSeq (sIf (mRT isND (rA 1) (rC .non)) (sRet (mCp (rBin isND (rH 1 (rN 0)) (rC .non)))) sPass)
  (sSeq (sIf (mTru (mR (rUn (isiD ["bool"]) (rA 1)))) (sRet (mAnd (mCp (rUn (isiD ["bool"]) (rH 1 (rN 0)))) (mCp (rBin eqD (rH 1 (rN 0)) (rA 1))))) sPass)
  (sSeq (sIf (mTru (mR (rUn (isiD ["int"]) (rA 1)))) (sRet (mAnd (mCp (rUn (isiD ["int"]) (rH 1 (rN 0)))) (mAnd (mNot (mR (rUn (isiD ["bool"]) (rH 1 (rN 0))))) (mCp (rBin eqD (rH 1 (rN 0)) (rA 1)))))) sPass)
  (sSeq (sIf (mTru (mR (rUn (isiD ["str"]) (rA 1)))) (sRet (mAnd (mCp (rUn (isiD ["str"]) (rH 1 (rN 0)))) (mCp (rBin eqD (rH 1 (rN 0)) (rA 1))))) sPass)
  (sRet (mAnd (mCp (rUn (isiD ["tuple"]) (rH 1 (rN 0)))) (mBin eqD (mB fList (mCons (mCp (rH 1 (rN 0))) mNil)) (mB fList (mCons (mCp (rA 1)) mNil)))))))))))
abbrev N__law_caught : List Str := ["x", "plain", "e", "told"]
noncomputable def m__law_caught (C : Orc) : MS :=
  (sSeq (TLH.sHot 0 2 3 [16])
  (sSeq (sSet 1 (mExn0 "RunError"))
  (sRet (mTup (mCons (mMov 3) (mCons (mCall (C "_law_kinds") [false] [none] (mCons (mGet 1) mNil)) (mCons (mCp (rUn (isXD excls ["ValueError"] isTab) (rN 1))) mNil)))))))
abbrev N_law : List Str := ["script", "state", "k", "one", "two", "made", "at", "kept", "other", "mates"]
noncomputable def m_law (C : Orc) : MS :=
  (sSeq (sSet 1 (mCall (C "_law_start") [false] [none] (mCons (mGet 0) mNil)))
  (sSeq (sFor (mIt rng1 (mCons (mCp (rC (.int 48))) mNil)) (tgN 2) (sSeq (sSet 6 (mIf (mRT ltD (rN 2) (rC (.int 24))) (mBin modD (mV1 intD (mBin addC (mGet 2) (mCall (C "_law_pick") [true, false] [some 1, none] (mCons (mMov 1) (mCons (mCp (rC (.int 24))) mNil))))) (mCp (rC (.int 24)))) (mCp (rBin subD (rN 2) (rC (.int 24))))))
  (sSeq (sPar 3 4 (mCons (mCall (C "_law_object") [true] [some 1] (mCons (mMov 1) mNil)) (mCons (mCall (C "_law_object") [true] [some 1] (mCons (mMov 1) mNil)) mNil)))
  (sLab 3 (sForgetR [3, 4, 5, 7, 8, 9]
  (sLab 4 (sForgetR [4, 5, 8, 9]
  (sSeq (sUnp [5, 7] (mCall (C "_law_made_at") [false, false] [none, none] (mCons (mGet 6) (mCons (mAl 3) mNil))))
  (sSeq (sUnp [8, 9] (mCall (C "_law_made_at") [false, false] [none, none] (mCons (mGet 6) (mCons (mAl 4) mNil))))
  (sSeq (sIf (mOrT (mNotT (mTru (mR (rUn (isXD excls ["RunError"] isTab) (rN 5))))) (mOrT (mNotT (mTru (mR (rUn (isXD excls ["ValueError"] isTab) (rN 5))))) (mTru (mBin neD (mCall (C "_law_kinds") [false] [none] (mCons (mGet 5) mNil)) (mLst (mCons (mGet 6) mNil)))))) (sRet (mCp (rC (.bl false)))) sPass)
  (sSeq (sIf (mOrT (mTru (mUn (isXD excls ["KeyError", "IndexError", "TypeError", "BadOther", "BadSpot"] isTab) (rN 5))) (mTru (mUn (isXD excls ["KeyError", "TypeError"] isTab) (rN 8)))) (sRet (mCp (rC (.bl false)))) sPass)
  (sIf (mOrT (mNotT (mTru (mCall (C "_law_very") [false, true] [none, some 3] (mCons (mGet 7) (mCons (mMov 3) mNil))))) (mNotT (mTru (mCall (C "_law_very") [false, true] [none, some 4] (mCons (mGet 9) (mCons (mMov 4) mNil)))))) (sRet (mCp (rC (.bl false)))) sPass))))))))))))
  (sSeq (sPar 3 4 (mCons (mCall (C "_law_object") [true] [some 1] (mCons (mMov 1) mNil)) (mCons (mCall (C "_law_object") [true] [some 1] (mCons (mMov 1) mNil)) mNil)))
  (sLab 3 (sForgetR [3, 4, 5, 7, 8, 9]
  (sLab 4 (sForgetR [4, 5, 8, 9]
  (sSeq (sFor (mItems (mTup (mCons (mExn "BadSpot" ["part", "place"] (mCons (mAl 3) (mCons (mAl 4) mNil))) (mCons (mExnK "BadSpot" ["part", "place"] [1, 0] (mCons (mAl 4) (mCons (mAl 3) mNil))) mNil)))) (tgN 5) (sIf (mOrT (mNotT (mTru (mR (rUn (isXD excls ["RunError"] isTab) (rN 5))))) (mOrT (mTru (mBin neD (mCall (C "_law_kinds") [false] [none] (mCons (mGet 5) mNil)) (mLst mNil))) (mOrT (mNotT (mTru (mCall (C "_law_very") [false, true] [none, some 3] (mCons (mCp (rXat fld_part "part" (rN 5))) (mCons (mMov 3) mNil))))) (mNotT (mTru (mCall (C "_law_very") [false, true] [none, some 4] (mCons (mCp (rXat fld_place "place" (rN 5))) (mCons (mMov 4) mNil)))))))) (sRet (mCp (rC (.bl false)))) sPass))
  (sRet (mBin eqD (mCall (C "_law_caught") [false] [none] (mCons (mCall (C "_law_object") [true] [some 1] (mCons (mMov 1) mNil)) mNil)) (mTup (mCons (mLst (mCons (mCp (rC (.int 16))) mNil)) (mCons (mLst mNil) (mCons (mCp (rC (.bl true))) mNil))))))))))))))
def fnames : List Str := [("_law_start" : Str), ("_law_pick" : Str), ("_law_between" : Str), ("_law_kinds_first" : Str), ("_law_kinds_last" : Str), ("_law_kinds" : Str), ("_law_form_made" : Str), ("_law_text_made" : Str), ("_law_other_made" : Str), ("_law_made_at" : Str), ("_law_object" : Str), ("_law_very" : Str), ("_law_caught" : Str)]
/-- the defs at one level -/
noncomputable def bodies (C : Orc) : List (List D → CR) :=
  [runF 1 [] (m__law_start C),
   runF 5 [0] (m__law_pick C),
   runF 3 [0] (m__law_between C),
   runF 3 [] (m__law_kinds_first C),
   runF 3 [] (m__law_kinds_last C),
   runF 1 [] (m__law_kinds C),
   runF 3 [] (m__law_form_made C),
   runF 3 [] (m__law_text_made C),
   runF 3 [] (m__law_other_made C),
   runF 2 [] (m__law_made_at C),
   runF 2 [0] (m__law_object C),
   runF 3 [1] (m__law_very C),
   runF 4 [] (m__law_caught C)]
def ixS (x : Str) : List Str → Nat
  | [] => 0
  | y :: ys => match decide (x = y) with
    | true => 0
    | false => ixS x ys + 1
def ixF (x : Str) : Nat := ixS x fnames
noncomputable def callN : Nat → Orc
  | 0 => fun _ _ => .bad
  | k + 1 => fun x ds => match (bodies (callN k))[ixF x]? with
    | some f => f ds
    | none => .bad
theorem callN_at {k : Nat} {x : Str} {i : Nat} {f : List D → CR} (h : ixF x = i) (hf : (bodies (callN k))[i]? = some f) : callN (k + 1) x = f := by
  funext ds
  show (match (bodies (callN k))[ixF x]? with | some f => f ds | none => CR.bad) = f ds
  rw [h, hf]
theorem c__law_start (k : Nat) : callN (k + 1) "_law_start" = runF 1 [] (m__law_start (callN k)) := callN_at (i := 0) (by decide +kernel) rfl
theorem c__law_pick (k : Nat) : callN (k + 1) "_law_pick" = runF 5 [0] (m__law_pick (callN k)) := callN_at (i := 1) (by decide +kernel) rfl
theorem c__law_between (k : Nat) : callN (k + 1) "_law_between" = runF 3 [0] (m__law_between (callN k)) := callN_at (i := 2) (by decide +kernel) rfl
theorem c__law_kinds_first (k : Nat) : callN (k + 1) "_law_kinds_first" = runF 3 [] (m__law_kinds_first (callN k)) := callN_at (i := 3) (by decide +kernel) rfl
theorem c__law_kinds_last (k : Nat) : callN (k + 1) "_law_kinds_last" = runF 3 [] (m__law_kinds_last (callN k)) := callN_at (i := 4) (by decide +kernel) rfl
theorem c__law_kinds (k : Nat) : callN (k + 1) "_law_kinds" = runF 1 [] (m__law_kinds (callN k)) := callN_at (i := 5) (by decide +kernel) rfl
theorem c__law_form_made (k : Nat) : callN (k + 1) "_law_form_made" = runF 3 [] (m__law_form_made (callN k)) := callN_at (i := 6) (by decide +kernel) rfl
theorem c__law_text_made (k : Nat) : callN (k + 1) "_law_text_made" = runF 3 [] (m__law_text_made (callN k)) := callN_at (i := 7) (by decide +kernel) rfl
theorem c__law_other_made (k : Nat) : callN (k + 1) "_law_other_made" = runF 3 [] (m__law_other_made (callN k)) := callN_at (i := 8) (by decide +kernel) rfl
theorem c__law_made_at (k : Nat) : callN (k + 1) "_law_made_at" = runF 2 [] (m__law_made_at (callN k)) := callN_at (i := 9) (by decide +kernel) rfl
theorem c__law_object (k : Nat) : callN (k + 1) "_law_object" = runF 2 [0] (m__law_object (callN k)) := callN_at (i := 10) (by decide +kernel) rfl
theorem c__law_very (k : Nat) : callN (k + 1) "_law_very" = runF 3 [1] (m__law_very (callN k)) := callN_at (i := 11) (by decide +kernel) rfl
theorem c__law_caught (k : Nat) : callN (k + 1) "_law_caught" = runF 4 [] (m__law_caught (callN k)) := callN_at (i := 12) (by decide +kernel) rfl
end LK
end

-- text K00w
section
set_option Elab.async false
set_option linter.all false
set_option maxRecDepth 100000
set_option maxHeartbeats 4000000
namespace LK
open PySem PySem.Spec PyProof.Rows L2 TL
def top (i : Nat) : Stmt := PySem.Challenge.pw_runorproof_k00_errors_made.main.body.getD i (.Pass ⟨0, 0, 0, 0⟩)
/-- what the names of the module stand for -/
structure Fx (Γ : Cs) : Prop where
  b_IndexError : Γ.mg "IndexError" = none
  b_KeyError : Γ.mg "KeyError" = none
  b_TypeError : Γ.mg "TypeError" = none
  b_ValueError : Γ.mg "ValueError" = none
  b_abs : Γ.mg "abs" = none
  b_bool : Γ.mg "bool" = none
  b_dict : Γ.mg "dict" = none
  b_int : Γ.mg "int" = none
  b_isinstance : Γ.mg "isinstance" = none
  b_len : Γ.mg "len" = none
  b_list : Γ.mg "list" = none
  b_max : Γ.mg "max" = none
  b_range : Γ.mg "range" = none
  b_str : Γ.mg "str" = none
  b_tuple : Γ.mg "tuple" = none
  m_BadAnswer : Γ.mg "BadAnswer" = some (.ref ((Γ.g.cls "BadAnswer").getD 0))
  m_BadArgs : Γ.mg "BadArgs" = some (.ref ((Γ.g.cls "BadArgs").getD 0))
  m_BadChoice : Γ.mg "BadChoice" = some (.ref ((Γ.g.cls "BadChoice").getD 0))
  m_BadChoices : Γ.mg "BadChoices" = some (.ref ((Γ.g.cls "BadChoices").getD 0))
  m_BadExpression : Γ.mg "BadExpression" = some (.ref ((Γ.g.cls "BadExpression").getD 0))
  m_BadExpressionText : Γ.mg "BadExpressionText" = some (.ref ((Γ.g.cls "BadExpressionText").getD 0))
  m_BadInputs : Γ.mg "BadInputs" = some (.ref ((Γ.g.cls "BadInputs").getD 0))
  m_BadLine : Γ.mg "BadLine" = some (.ref ((Γ.g.cls "BadLine").getD 0))
  m_BadLineNumber : Γ.mg "BadLineNumber" = some (.ref ((Γ.g.cls "BadLineNumber").getD 0))
  m_BadMost : Γ.mg "BadMost" = some (.ref ((Γ.g.cls "BadMost").getD 0))
  m_BadName : Γ.mg "BadName" = some (.ref ((Γ.g.cls "BadName").getD 0))
  m_BadOrder : Γ.mg "BadOrder" = some (.ref ((Γ.g.cls "BadOrder").getD 0))
  m_BadOther : Γ.mg "BadOther" = some (.ref ((Γ.g.cls "BadOther").getD 0))
  m_BadPaperText : Γ.mg "BadPaperText" = some (.ref ((Γ.g.cls "BadPaperText").getD 0))
  m_BadPlace : Γ.mg "BadPlace" = some (.ref ((Γ.g.cls "BadPlace").getD 0))
  m_BadPoint : Γ.mg "BadPoint" = some (.ref ((Γ.g.cls "BadPoint").getD 0))
  m_BadProcedure : Γ.mg "BadProcedure" = some (.ref ((Γ.g.cls "BadProcedure").getD 0))
  m_BadProcs : Γ.mg "BadProcs" = some (.ref ((Γ.g.cls "BadProcs").getD 0))
  m_BadProgram : Γ.mg "BadProgram" = some (.ref ((Γ.g.cls "BadProgram").getD 0))
  m_BadProgramText : Γ.mg "BadProgramText" = some (.ref ((Γ.g.cls "BadProgramText").getD 0))
  m_BadRuns : Γ.mg "BadRuns" = some (.ref ((Γ.g.cls "BadRuns").getD 0))
  m_BadSpot : Γ.mg "BadSpot" = some (.ref ((Γ.g.cls "BadSpot").getD 0))
  m_BadStanding : Γ.mg "BadStanding" = some (.ref ((Γ.g.cls "BadStanding").getD 0))
  m_BadTold : Γ.mg "BadTold" = some (.ref ((Γ.g.cls "BadTold").getD 0))
  m_BadValues : Γ.mg "BadValues" = some (.ref ((Γ.g.cls "BadValues").getD 0))
  m_Ended : Γ.mg "Ended" = some (.ref ((Γ.g.cls "Ended").getD 0))
  m_RunError : Γ.mg "RunError" = some (.ref ((Γ.g.cls "RunError").getD 0))
  isF : IsF Γ excls isTab
  v_BadAnswer : ExcV Γ "BadAnswer" ["answer"]
  v_BadArgs : ExcV Γ "BadArgs" ["given"]
  v_BadChoice : ExcV Γ "BadChoice" ["choice"]
  v_BadChoices : ExcV Γ "BadChoices" ["index"]
  v_BadExpression : ExcV Γ "BadExpression" ["expression"]
  v_BadExpressionText : ExcV Γ "BadExpressionText" ["text"]
  v_BadInputs : ExcV Γ "BadInputs" ["inputs"]
  v_BadLine : ExcV Γ "BadLine" ["line"]
  v_BadLineNumber : ExcV Γ "BadLineNumber" ["line"]
  v_BadMost : ExcV Γ "BadMost" ["most"]
  v_BadName : ExcV Γ "BadName" ["f"]
  v_BadOrder : ExcV Γ "BadOrder" ["index"]
  v_BadPaperText : ExcV Γ "BadPaperText" ["line"]
  v_BadPlace : ExcV Γ "BadPlace" ["place"]
  v_BadPoint : ExcV Γ "BadPoint" ["point"]
  v_BadProcedure : ExcV Γ "BadProcedure" ["procedure"]
  v_BadProcs : ExcV Γ "BadProcs" ["index"]
  v_BadProgram : ExcV Γ "BadProgram" ["program"]
  v_BadProgramText : ExcV Γ "BadProgramText" ["line"]
  v_BadRuns : ExcV Γ "BadRuns" ["index"]
  v_BadSpot : ExcV Γ "BadSpot" ["part", "place"]
  v_BadStanding : ExcV Γ "BadStanding" ["standing"]
  v_BadTold : ExcV Γ "BadTold" ["told"]
  v_BadValues : ExcV Γ "BadValues" ["given"]
  v_Ended : ExcV Γ "Ended" ["outcome"]
  n_RunError : ExcN Γ "RunError"
  a_answer : XaF Γ fld_answer "answer"
  a_choice : XaF Γ fld_choice "choice"
  a_expression : XaF Γ fld_expression "expression"
  a_f : XaF Γ fld_f "f"
  a_given : XaF Γ fld_given "given"
  a_index : XaF Γ fld_index "index"
  a_inputs : XaF Γ fld_inputs "inputs"
  a_line : XaF Γ fld_line "line"
  a_most : XaF Γ fld_most "most"
  a_outcome : XaF Γ fld_outcome "outcome"
  a_part : XaF Γ fld_part "part"
  a_place : XaF Γ fld_place "place"
  a_point : XaF Γ fld_point "point"
  a_procedure : XaF Γ fld_procedure "procedure"
  a_program : XaF Γ fld_program "program"
  a_standing : XaF Γ fld_standing "standing"
  a_text : XaF Γ fld_text "text"
  a_told : XaF Γ fld_told "told"
abbrev md__law_start : List Bool := [false]
abbrev md__law_pick : List Bool := [true, false]
abbrev md__law_between : List Bool := [true, false, false]
abbrev md__law_kinds_first : List Bool := [false]
abbrev md__law_kinds_last : List Bool := [false]
abbrev md__law_kinds : List Bool := [false]
abbrev md__law_form_made : List Bool := [false, false]
abbrev md__law_text_made : List Bool := [false, false]
abbrev md__law_other_made : List Bool := [false, false]
abbrev md__law_made_at : List Bool := [false, false]
abbrev md__law_object : List Bool := [true]
abbrev md__law_very : List Bool := [false, true]
abbrev md__law_caught : List Bool := [false]
abbrev md_law : List Bool := [false]
theorem w__law_start {Γ : Cs} (X : Fx Γ)  : SSs { Γ with N := N__law_start } (defScope (top 30)) [] (defBody (top 30)) (m__law_start Γ.C) := by
  unfold m__law_start
  exact (SSs_one (SS_ret (SE_lst (SA_cons (E_list ⟨rfl, X.b_list, rfl⟩ (SA_cons (SE_name 0 rfl (vis_by rfl)) SA_nil)) (SA_cons (SR.toE SR_int) (SA_cons (SR.toE SR_int) (SA_cons (SR.toE SR_int) SA_nil)))))))
theorem w__law_pick {Γ : Cs} (X : Fx Γ)  : SSs { Γ with N := N__law_pick } (defScope (top 31)) [0] (defBody (top 31)) (m__law_pick Γ.C) := by
  unfold m__law_pick
  exact (SSs_cons (SS_sto 0 (SR.toE (Rbin o_addA (SR_sub (SR_name 0 rfl (vis_by rfl)) SR_int (fun _ _ => rfl)) SR_int)) rfl (vis_by rfl) (SR.toE SR_int))
  (SSs_cons (SS_while (STw.t (STw_and (TRcmp o_eq (SR_sub (SR_name 0 rfl (vis_by rfl)) SR_int (fun _ _ => rfl)) SR_int rfl) (STw_and1 (TVcmp o_ne bls_ne (SR.toV (SR_sub (SR_name 0 rfl (vis_by rfl)) SR_int (fun _ _ => rfl))) (SE.toV (SE_lst SA_nil)) rfl)))) (SSs_cons (SS_set 3 (V_abs ⟨rfl, X.b_abs, rfl⟩ (SE.toV (E_popIn (i := 0) (k := 0) (j := 0) rfl (vis_by rfl)))) rfl (loc_by rfl))
  (SSs_cons (SS_sto 0 (SR.toE (Rbin o_mod (R_int ⟨rfl, X.b_int, rfl⟩ (Rbin o_addA (Rbin o_addA (Rbin o_mul (SR_sub (SR_name 0 rfl (vis_by rfl)) SR_int (fun _ _ => rfl)) SR_int) (SR_name 3 rfl (vis_by rfl))) SR_int)) SR_int)) rfl (vis_by rfl) (SR.toE SR_int))
  (SSs_one (SS_sto 0 (SE_if (TRcmp o_ge (SR_name 3 rfl (vis_by rfl)) (Rbin o_pow SR_int SR_int) rfl) (SE_name 3 rfl (vis_by rfl)) (SR.toE SR_int)) rfl (vis_by rfl) (SR.toE SR_int))))))
  (SSs_cons (SS_if (TRcmp o_gt (SR_sub (SR_name 0 rfl (vis_by rfl)) SR_int (fun _ _ => rfl)) SR_int rfl) (SSs_cons (SS_set 4 (SR.toE (Rbin o_mod (R_int ⟨rfl, X.b_int, rfl⟩ (SR_sub (SR_name 0 rfl (vis_by rfl)) SR_int (fun _ _ => rfl))) (SR_name 1 rfl (vis_by rfl)))) rfl (loc_by rfl))
  (SSs_cons (SS_sto 0 (SR.toE (Rbin o_div (SR_sub (SR_name 0 rfl (vis_by rfl)) SR_int (fun _ _ => rfl)) (SR_name 1 rfl (vis_by rfl)))) rfl (vis_by rfl) (SR.toE SR_int))
  (SSs_one (SS_ret (SE_mov 4 rfl (vis_by rfl)))))) SSs_nil)
  (SSs_cons (SS_set 2 (SR.toE (Rbin o_mod (R_int ⟨rfl, X.b_int, rfl⟩ (Rbin o_pow (Rbin o_addA (Rbin o_addA (SR_sub (SR_name 0 rfl (vis_by rfl)) SR_int (fun _ _ => rfl)) (Rbin o_mul SR_int (SR_sub (SR_name 0 rfl (vis_by rfl)) SR_int (fun _ _ => rfl)))) SR_int) SR_int)) SR_int)) rfl (loc_by rfl))
  (SSs_one (SS_ret (SR.toE (Rbin o_mod (Rbin o_mod (R_int ⟨rfl, X.b_int, rfl⟩ (Rbin o_pow (Rbin o_addA (Rbin o_addA (Rbin o_mul (SR_name 2 rfl (vis_by rfl)) SR_int) (Rbin o_mul SR_int (SR_sub (SR_name 0 rfl (vis_by rfl)) SR_int (fun _ _ => rfl)))) SR_int) SR_int)) SR_int) (SR_name 1 rfl (vis_by rfl))))))))))
theorem w__law_between {Γ : Cs} (X : Fx Γ) (c__law_pick : Fk Γ "_law_pick" md__law_pick) : SSs { Γ with N := N__law_between } (defScope (top 32)) [0] (defBody (top 32)) (m__law_between Γ.C) := by
  unfold m__law_between
  exact (SSs_one (SS_ret (Sbin o_add (SE_name 1 rfl (vis_by rfl)) (E_call (md := [true, false]) ⟨c__law_pick.ex⟩ rfl (SB_lend 0 (SB_cons (Sbin o_add (E_max2 ⟨rfl, X.b_max, rfl⟩ (SA_cons (SR.toE (Rbin o_sub (SR_name 2 rfl (vis_by rfl)) (SR_name 1 rfl (vis_by rfl)))) (SA_cons (SR.toE SR_int) SA_nil))) (SR.toE SR_int)) SB_nil) rfl (vis_by rfl))))))
theorem w__law_kinds_first {Γ : Cs} (X : Fx Γ)  : SSs { Γ with N := N__law_kinds_first } (defScope (top 33)) [] (defBody (top 33)) (m__law_kinds_first Γ.C) := by
  unfold m__law_kinds_first
  exact (SSs_cons (SS_set 1 (SE_lst (SA_cons (SR.toE (R_isX1 X.isF.N ⟨rfl, X.b_isinstance, rfl⟩ (.own rfl X.m_BadExpression (by decide) (by decide +kernel) .nil) (SR_name 0 rfl (vis_by rfl)))) (SA_cons (SR.toE (R_isX1 X.isF.N ⟨rfl, X.b_isinstance, rfl⟩ (.own rfl X.m_BadValues (by decide) (by decide +kernel) .nil) (SR_name 0 rfl (vis_by rfl)))) (SA_cons (SR.toE (R_isX1 X.isF.N ⟨rfl, X.b_isinstance, rfl⟩ (.own rfl X.m_BadProcs (by decide) (by decide +kernel) .nil) (SR_name 0 rfl (vis_by rfl)))) (SA_cons (SR.toE (R_isX1 X.isF.N ⟨rfl, X.b_isinstance, rfl⟩ (.own rfl X.m_BadName (by decide) (by decide +kernel) .nil) (SR_name 0 rfl (vis_by rfl)))) SA_nil))))) rfl (loc_by rfl))
  (SSs_cons (SS_do (E_extend (i := 1) rfl (vis_by rfl) (SE_lst (SA_cons (SR.toE (R_isX1 X.isF.N ⟨rfl, X.b_isinstance, rfl⟩ (.own rfl X.m_BadProcedure (by decide) (by decide +kernel) .nil) (SR_name 0 rfl (vis_by rfl)))) (SA_cons (SR.toE (R_isX1 X.isF.N ⟨rfl, X.b_isinstance, rfl⟩ (.own rfl X.m_BadProgram (by decide) (by decide +kernel) .nil) (SR_name 0 rfl (vis_by rfl)))) (SA_cons (SR.toE (R_isX1 X.isF.N ⟨rfl, X.b_isinstance, rfl⟩ (.own rfl X.m_BadExpressionText (by decide) (by decide +kernel) .nil) (SR_name 0 rfl (vis_by rfl)))) (SA_cons (SR.toE (R_isX1 X.isF.N ⟨rfl, X.b_isinstance, rfl⟩ (.own rfl X.m_BadProgramText (by decide) (by decide +kernel) .nil) (SR_name 0 rfl (vis_by rfl)))) SA_nil)))))))
  (SSs_cons (SS_do (E_extend (i := 1) rfl (vis_by rfl) (SE_lst (SA_cons (SR.toE (R_isX1 X.isF.N ⟨rfl, X.b_isinstance, rfl⟩ (.own rfl X.m_BadLine (by decide) (by decide +kernel) .nil) (SR_name 0 rfl (vis_by rfl)))) (SA_cons (SR.toE (R_isX1 X.isF.N ⟨rfl, X.b_isinstance, rfl⟩ (.own rfl X.m_BadPoint (by decide) (by decide +kernel) .nil) (SR_name 0 rfl (vis_by rfl)))) (SA_cons (SR.toE (R_isX1 X.isF.N ⟨rfl, X.b_isinstance, rfl⟩ (.own rfl X.m_BadInputs (by decide) (by decide +kernel) .nil) (SR_name 0 rfl (vis_by rfl)))) (SA_cons (SR.toE (R_isX1 X.isF.N ⟨rfl, X.b_isinstance, rfl⟩ (.own rfl X.m_BadStanding (by decide) (by decide +kernel) .nil) (SR_name 0 rfl (vis_by rfl)))) SA_nil)))))))
  (SSs_one (SS_ret (SE_lc [("k", 2)] (SI_range1 ⟨rfl, X.b_range, rfl⟩ (SA_cons (SR.toE SR_int) SA_nil)) rfl (SG_name 2 rfl (loc_by rfl) (by first | exact .inr rfl | exact .inl rfl)) (by decide) (STs_one (ST_tru (SR.toV (SR_sub (SR_name 1 rfl (vis_by rfl)) (SR_name 2 rfl (vis_by rfl)) (fun _ _ => rfl))))) (SR.toE (Rbin o_addA SR_int (SR_name 2 rfl (vis_by rfl))))))))))
theorem w__law_kinds_last {Γ : Cs} (X : Fx Γ)  : SSs { Γ with N := N__law_kinds_last } (defScope (top 34)) [] (defBody (top 34)) (m__law_kinds_last Γ.C) := by
  unfold m__law_kinds_last
  exact (SSs_cons (SS_set 1 (SE_lst (SA_cons (SR.toE (R_isX1 X.isF.N ⟨rfl, X.b_isinstance, rfl⟩ (.own rfl X.m_BadChoice (by decide) (by decide +kernel) .nil) (SR_name 0 rfl (vis_by rfl)))) (SA_cons (SR.toE (R_isX1 X.isF.N ⟨rfl, X.b_isinstance, rfl⟩ (.own rfl X.m_BadChoices (by decide) (by decide +kernel) .nil) (SR_name 0 rfl (vis_by rfl)))) (SA_cons (SR.toE (R_isX1 X.isF.N ⟨rfl, X.b_isinstance, rfl⟩ (.own rfl X.m_BadMost (by decide) (by decide +kernel) .nil) (SR_name 0 rfl (vis_by rfl)))) (SA_cons (SR.toE (R_isX1 X.isF.N ⟨rfl, X.b_isinstance, rfl⟩ (.own rfl X.m_BadArgs (by decide) (by decide +kernel) .nil) (SR_name 0 rfl (vis_by rfl)))) SA_nil))))) rfl (loc_by rfl))
  (SSs_cons (SS_do (E_extend (i := 1) rfl (vis_by rfl) (SE_lst (SA_cons (SR.toE (R_isX1 X.isF.N ⟨rfl, X.b_isinstance, rfl⟩ (.own rfl X.m_BadAnswer (by decide) (by decide +kernel) .nil) (SR_name 0 rfl (vis_by rfl)))) (SA_cons (SR.toE (R_isX1 X.isF.N ⟨rfl, X.b_isinstance, rfl⟩ (.own rfl X.m_BadPaperText (by decide) (by decide +kernel) .nil) (SR_name 0 rfl (vis_by rfl)))) (SA_cons (SR.toE (R_isX1 X.isF.N ⟨rfl, X.b_isinstance, rfl⟩ (.own rfl X.m_BadTold (by decide) (by decide +kernel) .nil) (SR_name 0 rfl (vis_by rfl)))) (SA_cons (SR.toE (R_isX1 X.isF.N ⟨rfl, X.b_isinstance, rfl⟩ (.own rfl X.m_BadOrder (by decide) (by decide +kernel) .nil) (SR_name 0 rfl (vis_by rfl)))) SA_nil)))))))
  (SSs_cons (SS_do (E_extend (i := 1) rfl (vis_by rfl) (SE_lst (SA_cons (SR.toE (R_isX1 X.isF.N ⟨rfl, X.b_isinstance, rfl⟩ (.own rfl X.m_BadPlace (by decide) (by decide +kernel) .nil) (SR_name 0 rfl (vis_by rfl)))) (SA_cons (SR.toE (R_isX1 X.isF.N ⟨rfl, X.b_isinstance, rfl⟩ (.own rfl X.m_BadLineNumber (by decide) (by decide +kernel) .nil) (SR_name 0 rfl (vis_by rfl)))) (SA_cons (SR.toE (R_isX1 X.isF.N ⟨rfl, X.b_isinstance, rfl⟩ (.own rfl X.m_BadRuns (by decide) (by decide +kernel) .nil) (SR_name 0 rfl (vis_by rfl)))) (SA_cons (SR.toE (R_isX1 X.isF.N ⟨rfl, X.b_isinstance, rfl⟩ (.own rfl X.m_Ended (by decide) (by decide +kernel) .nil) (SR_name 0 rfl (vis_by rfl)))) SA_nil)))))))
  (SSs_one (SS_ret (SE_lc [("k", 2)] (SI_range1 ⟨rfl, X.b_range, rfl⟩ (SA_cons (SR.toE SR_int) SA_nil)) rfl (SG_name 2 rfl (loc_by rfl) (by first | exact .inr rfl | exact .inl rfl)) (by decide) (STs_one (ST_tru (SR.toV (SR_sub (SR_name 1 rfl (vis_by rfl)) (SR_name 2 rfl (vis_by rfl)) (fun _ _ => rfl))))) (SR.toE (Rbin o_addA SR_int (SR_name 2 rfl (vis_by rfl))))))))))
theorem w__law_kinds {Γ : Cs} (X : Fx Γ) (c__law_kinds_first : Fk Γ "_law_kinds_first" md__law_kinds_first) (c__law_kinds_last : Fk Γ "_law_kinds_last" md__law_kinds_last) : SSs { Γ with N := N__law_kinds } (defScope (top 35)) [] (defBody (top 35)) (m__law_kinds Γ.C) := by
  unfold m__law_kinds
  exact (SSs_one (SS_ret (Sbin o_add (E_call (md := [false]) ⟨c__law_kinds_first.ex⟩ rfl (SB_cons (SE_name 0 rfl (vis_by rfl)) SB_nil)) (E_call (md := [false]) ⟨c__law_kinds_last.ex⟩ rfl (SB_cons (SE_name 0 rfl (vis_by rfl)) SB_nil)))))
theorem w__law_form_made {Γ : Cs} (X : Fx Γ)  : SSs { Γ with N := N__law_form_made } (defScope (top 36)) [] (defBody (top 36)) (m__law_form_made Γ.C) := by
  unfold m__law_form_made
  exact (SSs_cons (SS_if (TRcmp o_eq (SR_name 0 rfl (vis_by rfl)) SR_int rfl) (SSs_cons (SS_set 2 (E_exn X.v_BadExpression.N rfl (SA_cons (SE_name 1 rfl (vis_by rfl)) SA_nil)) rfl (loc_by rfl))
  (SSs_one (SS_ret (SE_tup (SA_cons (SE_name 2 rfl (vis_by rfl)) (SA_cons (SR.toE (SR_xat X.a_expression.N (SR_name 2 rfl (vis_by rfl)) (fun _ => rfl))) SA_nil)))))) SSs_nil)
  (SSs_cons (SS_if (TRcmp o_eq (SR_name 0 rfl (vis_by rfl)) SR_int rfl) (SSs_cons (SS_set 2 (E_exnK X.v_BadValues.N (.inl rfl) rfl rfl rfl (SK_cons (SE_name 1 rfl (vis_by rfl)) SK_nil)) rfl (loc_by rfl))
  (SSs_one (SS_ret (SE_tup (SA_cons (SE_name 2 rfl (vis_by rfl)) (SA_cons (SR.toE (SR_xat X.a_given.N (SR_name 2 rfl (vis_by rfl)) (fun _ => rfl))) SA_nil)))))) SSs_nil)
  (SSs_cons (SS_if (TRcmp o_eq (SR_name 0 rfl (vis_by rfl)) SR_int rfl) (SSs_cons (SS_set 2 (E_exn X.v_BadProcs.N rfl (SA_cons (SE_name 1 rfl (vis_by rfl)) SA_nil)) rfl (loc_by rfl))
  (SSs_one (SS_ret (SE_tup (SA_cons (SE_name 2 rfl (vis_by rfl)) (SA_cons (SR.toE (SR_xat X.a_index.N (SR_name 2 rfl (vis_by rfl)) (fun _ => rfl))) SA_nil)))))) SSs_nil)
  (SSs_cons (SS_if (TRcmp o_eq (SR_name 0 rfl (vis_by rfl)) SR_int rfl) (SSs_cons (SS_set 2 (E_exn X.v_BadName.N rfl (SA_cons (SE_name 1 rfl (vis_by rfl)) SA_nil)) rfl (loc_by rfl))
  (SSs_one (SS_ret (SE_tup (SA_cons (SE_name 2 rfl (vis_by rfl)) (SA_cons (SR.toE (SR_xat X.a_f.N (SR_name 2 rfl (vis_by rfl)) (fun _ => rfl))) SA_nil)))))) SSs_nil)
  (SSs_cons (SS_if (TRcmp o_eq (SR_name 0 rfl (vis_by rfl)) SR_int rfl) (SSs_cons (SS_set 2 (E_exnK X.v_BadProcedure.N (.inl rfl) rfl rfl rfl (SK_cons (SE_name 1 rfl (vis_by rfl)) SK_nil)) rfl (loc_by rfl))
  (SSs_one (SS_ret (SE_tup (SA_cons (SE_name 2 rfl (vis_by rfl)) (SA_cons (SR.toE (SR_xat X.a_procedure.N (SR_name 2 rfl (vis_by rfl)) (fun _ => rfl))) SA_nil)))))) SSs_nil)
  (SSs_cons (SS_if (TRcmp o_eq (SR_name 0 rfl (vis_by rfl)) SR_int rfl) (SSs_cons (SS_set 2 (E_exn X.v_BadProgram.N rfl (SA_cons (SE_name 1 rfl (vis_by rfl)) SA_nil)) rfl (loc_by rfl))
  (SSs_one (SS_ret (SE_tup (SA_cons (SE_name 2 rfl (vis_by rfl)) (SA_cons (SR.toE (SR_xat X.a_program.N (SR_name 2 rfl (vis_by rfl)) (fun _ => rfl))) SA_nil)))))) SSs_nil)
  (SSs_cons (SS_if (TRcmp o_eq (SR_name 0 rfl (vis_by rfl)) SR_int rfl) (SSs_cons (SS_set 2 (E_exn X.v_BadExpressionText.N rfl (SA_cons (SE_name 1 rfl (vis_by rfl)) SA_nil)) rfl (loc_by rfl))
  (SSs_one (SS_ret (SE_tup (SA_cons (SE_name 2 rfl (vis_by rfl)) (SA_cons (SR.toE (SR_xat X.a_text.N (SR_name 2 rfl (vis_by rfl)) (fun _ => rfl))) SA_nil)))))) SSs_nil)
  (SSs_cons (SS_set 2 (E_exnK X.v_BadProgramText.N (.inl rfl) rfl rfl rfl (SK_cons (SE_name 1 rfl (vis_by rfl)) SK_nil)) rfl (loc_by rfl))
  (SSs_one (SS_ret (SE_tup (SA_cons (SE_name 2 rfl (vis_by rfl)) (SA_cons (SR.toE (SR_xat X.a_line.N (SR_name 2 rfl (vis_by rfl)) (fun _ => rfl))) SA_nil)))))))))))))
theorem w__law_text_made {Γ : Cs} (X : Fx Γ)  : SSs { Γ with N := N__law_text_made } (defScope (top 37)) [] (defBody (top 37)) (m__law_text_made Γ.C) := by
  unfold m__law_text_made
  exact (SSs_cons (SS_if (TRcmp o_eq (SR_name 0 rfl (vis_by rfl)) SR_int rfl) (SSs_cons (SS_set 2 (E_exn X.v_BadLine.N rfl (SA_cons (SE_name 1 rfl (vis_by rfl)) SA_nil)) rfl (loc_by rfl))
  (SSs_one (SS_ret (SE_tup (SA_cons (SE_name 2 rfl (vis_by rfl)) (SA_cons (SR.toE (SR_xat X.a_line.N (SR_name 2 rfl (vis_by rfl)) (fun _ => rfl))) SA_nil)))))) SSs_nil)
  (SSs_cons (SS_if (TRcmp o_eq (SR_name 0 rfl (vis_by rfl)) SR_int rfl) (SSs_cons (SS_set 2 (E_exnK X.v_BadPoint.N (.inl rfl) rfl rfl rfl (SK_cons (SE_name 1 rfl (vis_by rfl)) SK_nil)) rfl (loc_by rfl))
  (SSs_one (SS_ret (SE_tup (SA_cons (SE_name 2 rfl (vis_by rfl)) (SA_cons (SR.toE (SR_xat X.a_point.N (SR_name 2 rfl (vis_by rfl)) (fun _ => rfl))) SA_nil)))))) SSs_nil)
  (SSs_cons (SS_if (TRcmp o_eq (SR_name 0 rfl (vis_by rfl)) SR_int rfl) (SSs_cons (SS_set 2 (E_exn X.v_BadInputs.N rfl (SA_cons (SE_name 1 rfl (vis_by rfl)) SA_nil)) rfl (loc_by rfl))
  (SSs_one (SS_ret (SE_tup (SA_cons (SE_name 2 rfl (vis_by rfl)) (SA_cons (SR.toE (SR_xat X.a_inputs.N (SR_name 2 rfl (vis_by rfl)) (fun _ => rfl))) SA_nil)))))) SSs_nil)
  (SSs_cons (SS_if (TRcmp o_eq (SR_name 0 rfl (vis_by rfl)) SR_int rfl) (SSs_cons (SS_set 2 (E_exn X.v_BadStanding.N rfl (SA_cons (SE_name 1 rfl (vis_by rfl)) SA_nil)) rfl (loc_by rfl))
  (SSs_one (SS_ret (SE_tup (SA_cons (SE_name 2 rfl (vis_by rfl)) (SA_cons (SR.toE (SR_xat X.a_standing.N (SR_name 2 rfl (vis_by rfl)) (fun _ => rfl))) SA_nil)))))) SSs_nil)
  (SSs_cons (SS_if (TRcmp o_eq (SR_name 0 rfl (vis_by rfl)) SR_int rfl) (SSs_cons (SS_set 2 (E_exnK X.v_BadChoice.N (.inl rfl) rfl rfl rfl (SK_cons (SE_name 1 rfl (vis_by rfl)) SK_nil)) rfl (loc_by rfl))
  (SSs_one (SS_ret (SE_tup (SA_cons (SE_name 2 rfl (vis_by rfl)) (SA_cons (SR.toE (SR_xat X.a_choice.N (SR_name 2 rfl (vis_by rfl)) (fun _ => rfl))) SA_nil)))))) SSs_nil)
  (SSs_cons (SS_if (TRcmp o_eq (SR_name 0 rfl (vis_by rfl)) SR_int rfl) (SSs_cons (SS_set 2 (E_exn X.v_BadChoices.N rfl (SA_cons (SE_name 1 rfl (vis_by rfl)) SA_nil)) rfl (loc_by rfl))
  (SSs_one (SS_ret (SE_tup (SA_cons (SE_name 2 rfl (vis_by rfl)) (SA_cons (SR.toE (SR_xat X.a_index.N (SR_name 2 rfl (vis_by rfl)) (fun _ => rfl))) SA_nil)))))) SSs_nil)
  (SSs_cons (SS_if (TRcmp o_eq (SR_name 0 rfl (vis_by rfl)) SR_int rfl) (SSs_cons (SS_set 2 (E_exn X.v_BadMost.N rfl (SA_cons (SE_name 1 rfl (vis_by rfl)) SA_nil)) rfl (loc_by rfl))
  (SSs_one (SS_ret (SE_tup (SA_cons (SE_name 2 rfl (vis_by rfl)) (SA_cons (SR.toE (SR_xat X.a_most.N (SR_name 2 rfl (vis_by rfl)) (fun _ => rfl))) SA_nil)))))) SSs_nil)
  (SSs_cons (SS_set 2 (E_exnK X.v_BadArgs.N (.inl rfl) rfl rfl rfl (SK_cons (SE_name 1 rfl (vis_by rfl)) SK_nil)) rfl (loc_by rfl))
  (SSs_one (SS_ret (SE_tup (SA_cons (SE_name 2 rfl (vis_by rfl)) (SA_cons (SR.toE (SR_xat X.a_given.N (SR_name 2 rfl (vis_by rfl)) (fun _ => rfl))) SA_nil)))))))))))))
theorem w__law_other_made {Γ : Cs} (X : Fx Γ)  : SSs { Γ with N := N__law_other_made } (defScope (top 38)) [] (defBody (top 38)) (m__law_other_made Γ.C) := by
  unfold m__law_other_made
  exact (SSs_cons (SS_if (TRcmp o_eq (SR_name 0 rfl (vis_by rfl)) SR_int rfl) (SSs_cons (SS_set 2 (E_exn X.v_BadAnswer.N rfl (SA_cons (SE_name 1 rfl (vis_by rfl)) SA_nil)) rfl (loc_by rfl))
  (SSs_one (SS_ret (SE_tup (SA_cons (SE_name 2 rfl (vis_by rfl)) (SA_cons (SR.toE (SR_xat X.a_answer.N (SR_name 2 rfl (vis_by rfl)) (fun _ => rfl))) SA_nil)))))) SSs_nil)
  (SSs_cons (SS_if (TRcmp o_eq (SR_name 0 rfl (vis_by rfl)) SR_int rfl) (SSs_cons (SS_set 2 (E_exnK X.v_BadPaperText.N (.inl rfl) rfl rfl rfl (SK_cons (SE_name 1 rfl (vis_by rfl)) SK_nil)) rfl (loc_by rfl))
  (SSs_one (SS_ret (SE_tup (SA_cons (SE_name 2 rfl (vis_by rfl)) (SA_cons (SR.toE (SR_xat X.a_line.N (SR_name 2 rfl (vis_by rfl)) (fun _ => rfl))) SA_nil)))))) SSs_nil)
  (SSs_cons (SS_if (TRcmp o_eq (SR_name 0 rfl (vis_by rfl)) SR_int rfl) (SSs_cons (SS_set 2 (E_exn X.v_BadTold.N rfl (SA_cons (SE_name 1 rfl (vis_by rfl)) SA_nil)) rfl (loc_by rfl))
  (SSs_one (SS_ret (SE_tup (SA_cons (SE_name 2 rfl (vis_by rfl)) (SA_cons (SR.toE (SR_xat X.a_told.N (SR_name 2 rfl (vis_by rfl)) (fun _ => rfl))) SA_nil)))))) SSs_nil)
  (SSs_cons (SS_if (TRcmp o_eq (SR_name 0 rfl (vis_by rfl)) SR_int rfl) (SSs_cons (SS_set 2 (E_exn X.v_BadOrder.N rfl (SA_cons (SE_name 1 rfl (vis_by rfl)) SA_nil)) rfl (loc_by rfl))
  (SSs_one (SS_ret (SE_tup (SA_cons (SE_name 2 rfl (vis_by rfl)) (SA_cons (SR.toE (SR_xat X.a_index.N (SR_name 2 rfl (vis_by rfl)) (fun _ => rfl))) SA_nil)))))) SSs_nil)
  (SSs_cons (SS_if (TRcmp o_eq (SR_name 0 rfl (vis_by rfl)) SR_int rfl) (SSs_cons (SS_set 2 (E_exnK X.v_BadPlace.N (.inl rfl) rfl rfl rfl (SK_cons (SE_name 1 rfl (vis_by rfl)) SK_nil)) rfl (loc_by rfl))
  (SSs_one (SS_ret (SE_tup (SA_cons (SE_name 2 rfl (vis_by rfl)) (SA_cons (SR.toE (SR_xat X.a_place.N (SR_name 2 rfl (vis_by rfl)) (fun _ => rfl))) SA_nil)))))) SSs_nil)
  (SSs_cons (SS_if (TRcmp o_eq (SR_name 0 rfl (vis_by rfl)) SR_int rfl) (SSs_cons (SS_set 2 (E_exn X.v_BadLineNumber.N rfl (SA_cons (SE_name 1 rfl (vis_by rfl)) SA_nil)) rfl (loc_by rfl))
  (SSs_one (SS_ret (SE_tup (SA_cons (SE_name 2 rfl (vis_by rfl)) (SA_cons (SR.toE (SR_xat X.a_line.N (SR_name 2 rfl (vis_by rfl)) (fun _ => rfl))) SA_nil)))))) SSs_nil)
  (SSs_cons (SS_if (TRcmp o_eq (SR_name 0 rfl (vis_by rfl)) SR_int rfl) (SSs_cons (SS_set 2 (E_exn X.v_BadRuns.N rfl (SA_cons (SE_name 1 rfl (vis_by rfl)) SA_nil)) rfl (loc_by rfl))
  (SSs_one (SS_ret (SE_tup (SA_cons (SE_name 2 rfl (vis_by rfl)) (SA_cons (SR.toE (SR_xat X.a_index.N (SR_name 2 rfl (vis_by rfl)) (fun _ => rfl))) SA_nil)))))) SSs_nil)
  (SSs_cons (SS_set 2 (E_exnK X.v_Ended.N (.inl rfl) rfl rfl rfl (SK_cons (SE_name 1 rfl (vis_by rfl)) SK_nil)) rfl (loc_by rfl))
  (SSs_one (SS_ret (SE_tup (SA_cons (SE_name 2 rfl (vis_by rfl)) (SA_cons (SR.toE (SR_xat X.a_outcome.N (SR_name 2 rfl (vis_by rfl)) (fun _ => rfl))) SA_nil)))))))))))))
theorem w__law_made_at {Γ : Cs} (X : Fx Γ) (c__law_form_made : Fk Γ "_law_form_made" md__law_form_made) (c__law_other_made : Fk Γ "_law_other_made" md__law_other_made) (c__law_text_made : Fk Γ "_law_text_made" md__law_text_made) : SSs { Γ with N := N__law_made_at } (defScope (top 39)) [] (defBody (top 39)) (m__law_made_at Γ.C) := by
  unfold m__law_made_at
  exact (SSs_cons (SS_if (TRcmp o_lt (SR_name 0 rfl (vis_by rfl)) SR_int rfl) (SSs_one (SS_ret (E_call (md := [false, false]) ⟨c__law_form_made.ex⟩ rfl (SB_cons (SE_name 0 rfl (vis_by rfl)) (SB_cons (SE_name 1 rfl (vis_by rfl)) SB_nil))))) SSs_nil)
  (SSs_one (SS_ret (SE_if (TRcmp o_lt (SR_name 0 rfl (vis_by rfl)) SR_int rfl) (E_call (md := [false, false]) ⟨c__law_text_made.ex⟩ rfl (SB_cons (SE_name 0 rfl (vis_by rfl)) (SB_cons (SE_name 1 rfl (vis_by rfl)) SB_nil))) (E_call (md := [false, false]) ⟨c__law_other_made.ex⟩ rfl (SB_cons (SE_name 0 rfl (vis_by rfl)) (SB_cons (SE_name 1 rfl (vis_by rfl)) SB_nil)))))))
theorem w__law_object {Γ : Cs} (X : Fx Γ) (c__law_between : Fk Γ "_law_between" md__law_between) (c__law_pick : Fk Γ "_law_pick" md__law_pick) : SSs { Γ with N := N__law_object } (defScope (top 40)) [0] (defBody (top 40)) (m__law_object Γ.C) := by
  unfold m__law_object
  exact (SSs_cons (SS_set 1 (E_call (md := [true, false]) ⟨c__law_pick.ex⟩ rfl (SB_lend 0 (SB_cons (SR.toE SR_int) SB_nil) rfl (vis_by rfl))) rfl (loc_by rfl))
  (SSs_cons (SS_if (TRcmp o_lt (SR_name 1 rfl (vis_by rfl)) SR_int rfl) (SSs_one (SS_ret (SE_sub (SE_lst (SA_cons (E_call (md := [true, false, false]) ⟨c__law_between.ex⟩ rfl (SB_lend 0 (SB_cons (SR.toE (SR_neg SR_int)) (SB_cons (SR.toE SR_int) SB_nil)) rfl (vis_by rfl))) (SA_cons (Sbin o_add (SR.toE SR_str) (V_str ⟨rfl, X.b_str, rfl⟩ (SE.toV (E_call (md := [true, false]) ⟨c__law_pick.ex⟩ rfl (SB_lend 0 (SB_cons (SR.toE SR_int) SB_nil) rfl (vis_by rfl)))))) SA_nil))) (SE_name 1 rfl (vis_by rfl)) (fun _ _ => rfl)))) SSs_nil)
  (SSs_cons (SS_if (TRcmp o_lt (SR_name 1 rfl (vis_by rfl)) SR_int rfl) (SSs_one (SS_ret (SE_sub (SE_lst (SA_cons (SR.toE SR_non) (SA_cons (Vcmp o_eq (SE.toV (E_call (md := [true, false]) ⟨c__law_pick.ex⟩ rfl (SB_lend 0 (SB_cons (SR.toE SR_int) SB_nil) rfl (vis_by rfl)))) (SR.toV SR_int) rfl) (SA_cons (SE_tup (SA_cons (SR.toE SR_int) (SA_cons (E_call (md := [true, false]) ⟨c__law_pick.ex⟩ rfl (SB_lend 0 (SB_cons (SR.toE SR_int) SB_nil) rfl (vis_by rfl))) SA_nil))) SA_nil)))) (SR.toE (Rbin o_sub (SR_name 1 rfl (vis_by rfl)) SR_int)) (fun _ _ => rfl)))) SSs_nil)
  (SSs_one (SS_ret (SE_if (TRcmp o_eq (SR_name 1 rfl (vis_by rfl)) SR_int rfl) (SE_lst (SA_cons (E_call (md := [true, false]) ⟨c__law_pick.ex⟩ rfl (SB_lend 0 (SB_cons (SR.toE SR_int) SB_nil) rfl (vis_by rfl))) (SA_cons (SE_lst (SA_cons (SR.toE SR_int) SA_nil)) SA_nil))) (SE_dct (SPs_cons (SR.toE SR_str) (E_call (md := [true, false]) ⟨c__law_pick.ex⟩ rfl (SB_lend 0 (SB_cons (SR.toE SR_int) SB_nil) rfl (vis_by rfl))) SPs_nil) rfl rfl (by first | decide | exact ⟨Nat.le_of_ble_eq_true rfl, Nat.le_of_ble_eq_true rfl⟩) (by first | decide | exact ⟨Nat.le_of_ble_eq_true rfl, Nat.le_of_ble_eq_true rfl⟩))))))))
theorem w__law_very {Γ : Cs} (X : Fx Γ)  : SSs { Γ with N := N__law_very } (defScope (top 41)) [1] (defBody (top 41)) (m__law_very Γ.C) := by
  unfold m__law_very
  exact (SSs_cons (SS_if (ST_tru (SR.toV (R_isi1 ⟨rfl, X.b_isinstance, rfl⟩ ⟨rfl, X.b_list, rfl⟩ (SR_nameA 1 rfl (vis_by rfl))))) (SSs_cons (SS_al (SS_do (E_append (i := 1) rfl (vis_by rfl) (SR.toE SR_str))))
  (SSs_cons (SS_set 2 (SE_and (SR.toE (R_isi1 ⟨rfl, X.b_isinstance, rfl⟩ ⟨rfl, X.b_list, rfl⟩ (SR_hole 1 (SR_name 0 rfl (vis_by rfl))))) (SE_and (SR.toE (Rcmp o_eq (R_len2 ⟨rfl, X.b_len, rfl⟩ (SR_hole 1 (SR_name 0 rfl (vis_by rfl)))) (R_len2 ⟨rfl, X.b_len, rfl⟩ (SR_nameA 1 rfl (vis_by rfl))) rfl)) (SE_and1 (SR.toE (Rcmp o_eq (SR_sub (SR_hole 1 (SR_name 0 rfl (vis_by rfl))) (SR_neg SR_int) (fun _ _ => rfl)) SR_str rfl))))) rfl (loc_by rfl))
  (SSs_cons (SS_al (SS_do (E_pop0 (i := 1) rfl (vis_by rfl))))
  (SSs_one (SS_ret (SE_and (SE_name 2 rfl (vis_by rfl)) (SE_and (SR.toE (R_isi1 ⟨rfl, X.b_isinstance, rfl⟩ ⟨rfl, X.b_list, rfl⟩ (SR_hole 1 (SR_name 0 rfl (vis_by rfl))))) (SE_and1 (SR.toE (Rcmp o_eq (SR_hole 1 (SR_name 0 rfl (vis_by rfl))) (SR_nameA 1 rfl (vis_by rfl)) rfl)))))))))) SSs_nil)
  (SSs_cons (SS_if (ST_tru (SR.toV (R_isi1 ⟨rfl, X.b_isinstance, rfl⟩ ⟨rfl, X.b_dict, rfl⟩ (SR_nameA 1 rfl (vis_by rfl))))) (SSs_cons (SS_al (SS_sto 1 (SR.toE SR_int) rfl (vis_by rfl) (SR.toE SR_str)))
  (SSs_cons (SS_set 2 (SE_and (SR.toE (R_isi1 ⟨rfl, X.b_isinstance, rfl⟩ ⟨rfl, X.b_dict, rfl⟩ (SR_hole 1 (SR_name 0 rfl (vis_by rfl))))) (SE_and (SR.toE (Rcmp o_in SR_str (SR_hole 1 (SR_name 0 rfl (vis_by rfl))) rfl)) (SE_and1 (SR.toE (Rcmp o_eq (R_len2 ⟨rfl, X.b_len, rfl⟩ (SR_hole 1 (SR_name 0 rfl (vis_by rfl)))) (R_len2 ⟨rfl, X.b_len, rfl⟩ (SR_nameA 1 rfl (vis_by rfl))) rfl))))) rfl (loc_by rfl))
  (SSs_cons (SS_al (SS_do (E_dpop (i := 1) rfl (vis_by rfl))))
  (SSs_one (SS_ret (SE_and (SE_name 2 rfl (vis_by rfl)) (SE_and (SR.toE (R_isi1 ⟨rfl, X.b_isinstance, rfl⟩ ⟨rfl, X.b_dict, rfl⟩ (SR_hole 1 (SR_name 0 rfl (vis_by rfl))))) (SE_and1 (SR.toE (SR_eqK (SR_hole 1 (SR_name 0 rfl (vis_by rfl))) (SR_nameA 1 rfl (vis_by rfl)) rfl)))))))))) SSs_nil)
  (SSs_cons (SS_if (TRcmp o_isN (SR_nameA 1 rfl (vis_by rfl)) SR_non rfl) (SSs_one (SS_ret (SR.toE (Rcmp o_isN (SR_hole 1 (SR_name 0 rfl (vis_by rfl))) SR_non rfl)))) SSs_nil)
  (SSs_cons (SS_if (ST_tru (SR.toV (R_isi1 ⟨rfl, X.b_isinstance, rfl⟩ ⟨rfl, X.b_bool, rfl⟩ (SR_nameA 1 rfl (vis_by rfl))))) (SSs_one (SS_ret (SE_and (SR.toE (R_isi1 ⟨rfl, X.b_isinstance, rfl⟩ ⟨rfl, X.b_bool, rfl⟩ (SR_hole 1 (SR_name 0 rfl (vis_by rfl))))) (SE_and1 (SR.toE (Rcmp o_eq (SR_hole 1 (SR_name 0 rfl (vis_by rfl))) (SR_nameA 1 rfl (vis_by rfl)) rfl)))))) SSs_nil)
  (SSs_cons (SS_if (ST_tru (SR.toV (R_isi1 ⟨rfl, X.b_isinstance, rfl⟩ ⟨rfl, X.b_int, rfl⟩ (SR_nameA 1 rfl (vis_by rfl))))) (SSs_one (SS_ret (SE_and (SR.toE (R_isi1 ⟨rfl, X.b_isinstance, rfl⟩ ⟨rfl, X.b_int, rfl⟩ (SR_hole 1 (SR_name 0 rfl (vis_by rfl))))) (SE_and (SE_not (SR.toV (R_isi1 ⟨rfl, X.b_isinstance, rfl⟩ ⟨rfl, X.b_bool, rfl⟩ (SR_hole 1 (SR_name 0 rfl (vis_by rfl)))))) (SE_and1 (SR.toE (Rcmp o_eq (SR_hole 1 (SR_name 0 rfl (vis_by rfl))) (SR_nameA 1 rfl (vis_by rfl)) rfl))))))) SSs_nil)
  (SSs_cons (SS_if (ST_tru (SR.toV (R_isi1 ⟨rfl, X.b_isinstance, rfl⟩ ⟨rfl, X.b_str, rfl⟩ (SR_nameA 1 rfl (vis_by rfl))))) (SSs_one (SS_ret (SE_and (SR.toE (R_isi1 ⟨rfl, X.b_isinstance, rfl⟩ ⟨rfl, X.b_str, rfl⟩ (SR_hole 1 (SR_name 0 rfl (vis_by rfl))))) (SE_and1 (SR.toE (Rcmp o_eq (SR_hole 1 (SR_name 0 rfl (vis_by rfl))) (SR_nameA 1 rfl (vis_by rfl)) rfl)))))) SSs_nil)
  (SSs_one (SS_ret (SE_and (SR.toE (R_isi1 ⟨rfl, X.b_isinstance, rfl⟩ ⟨rfl, X.b_tuple, rfl⟩ (SR_hole 1 (SR_name 0 rfl (vis_by rfl))))) (SE_and1 (Vcmp o_eq (SE.toV (E_list ⟨rfl, X.b_list, rfl⟩ (SA_cons (SR.toE (SR_hole 1 (SR_name 0 rfl (vis_by rfl)))) SA_nil))) (SE.toV (E_list ⟨rfl, X.b_list, rfl⟩ (SA_cons (SR.toE (SR_nameA 1 rfl (vis_by rfl))) SA_nil))) rfl)))))))))))
theorem w__law_caught {Γ : Cs} (X : Fx Γ) (c__law_kinds : Fk Γ "_law_kinds" md__law_kinds) (hot : TLH.HotF Γ "_law_kinds" "BadAnswer" [16]) (exm : TLH.ExmF Γ "BadAnswer" "RunError") : TLH.SSt { Γ with N := N__law_caught } (defScope (top 42)) [] (defBody (top 42)) (m__law_caught Γ.C) := by
  unfold m__law_caught
  exact fun Y W G T hf hs hr => TLH.pss_seq (TLH.ps_hot G hs hr hf X.v_BadAnswer.N exm.N hot.N rfl rfl rfl rfl (vis_by rfl) rfl rfl rfl (loc_by rfl) (by decide) (by decide) (by decide)) (((SSs_cons (SS_set 1 (E_exn0 X.n_RunError.N rfl) rfl (loc_by rfl))
  (SSs_one (SS_ret (SE_tup (SA_cons (SE_mov 3 rfl (vis_by rfl)) (SA_cons (E_call (md := [false]) ⟨c__law_kinds.ex⟩ rfl (SB_cons (SE_name 1 rfl (vis_by rfl)) SB_nil)) (SA_cons (SR.toE (R_isX1 X.isF.N ⟨rfl, X.b_isinstance, rfl⟩ (.ty ⟨rfl, X.b_ValueError, rfl⟩ (by decide) (by decide) (by decide) .nil) (SR_name 1 rfl (vis_by rfl)))) SA_nil))))))) : SSs { Γ with N := N__law_caught } (defScope (top 42)) [] _ _) Y W G T hf)
theorem w_law {Γ : Cs} (X : Fx Γ) (c__law_caught : Fk Γ "_law_caught" md__law_caught) (c__law_kinds : Fk Γ "_law_kinds" md__law_kinds) (c__law_made_at : Fk Γ "_law_made_at" md__law_made_at) (c__law_object : Fk Γ "_law_object" md__law_object) (c__law_pick : Fk Γ "_law_pick" md__law_pick) (c__law_start : Fk Γ "_law_start" md__law_start) (c__law_very : Fk Γ "_law_very" md__law_very) : SSs { Γ with N := N_law } (defScope (top 43)) [] (defBody (top 43)) (m_law Γ.C) := by
  unfold m_law
  exact (SSs_cons (SS_set 1 (E_call (md := [false]) ⟨c__law_start.ex⟩ rfl (SB_cons (SE_name 0 rfl (vis_by rfl)) SB_nil)) rfl (loc_by rfl))
  (SSs_cons (SS_for (SI_range1 ⟨rfl, X.b_range, rfl⟩ (SA_cons (SR.toE SR_int) SA_nil)) (SG_name 2 rfl (loc_by rfl) (.inl rfl)) (by decide) (SSs_cons (SS_set 6 (SE_if (TRcmp o_lt (SR_name 2 rfl (vis_by rfl)) SR_int rfl) (Ebin o_mod (V_int ⟨rfl, X.b_int, rfl⟩ (SE.toV (Sbin o_add (SE_name 2 rfl (vis_by rfl)) (E_call (md := [true, false]) ⟨c__law_pick.ex⟩ rfl (SB_lend 1 (SB_cons (SR.toE SR_int) SB_nil) rfl (vis_by rfl)))))) (SR.toE SR_int)) (SR.toE (Rbin o_sub (SR_name 2 rfl (vis_by rfl)) SR_int))) rfl (loc_by rfl))
  (SSs_cons (SS_par (i := 3) (k := 4) (SA_cons (E_call (md := [true]) ⟨c__law_object.ex⟩ rfl (SB_lend 1 SB_nil rfl (vis_by rfl))) (SA_cons (E_call (md := [true]) ⟨c__law_object.ex⟩ rfl (SB_lend 1 SB_nil rfl (vis_by rfl))) SA_nil)) rfl rfl (by decide) rfl rfl (by decide) (by decide))
  (SSs_lab (SSs_forgetR (is := [3, 4, 5, 7, 8, 9]) (SSs_lab (SSs_forgetR (is := [4, 5, 8, 9]) (SSs_cons (SS_unp (is := [5, 7]) (.cons rfl (loc_by rfl) (by decide) (.cons rfl (loc_by rfl) (by decide) .nil)) (E_call (md := [false, false]) ⟨c__law_made_at.ex⟩ rfl (SB_cons (SE_name 6 rfl (vis_by rfl)) (SB_cons (E_al 3 rfl (vis_by rfl)) SB_nil))) 2)
  (SSs_cons (SS_unp (is := [8, 9]) (.cons rfl (loc_by rfl) (by decide) (.cons rfl (loc_by rfl) (by decide) .nil)) (E_call (md := [false, false]) ⟨c__law_made_at.ex⟩ rfl (SB_cons (SE_name 6 rfl (vis_by rfl)) (SB_cons (E_al 4 rfl (vis_by rfl)) SB_nil))) 2)
  (SSs_cons (SS_if (STw.t (STw_or (ST_not (ST_tru (SR.toV (R_isX1 X.isF.N ⟨rfl, X.b_isinstance, rfl⟩ (.own rfl X.m_RunError (by decide) (by decide +kernel) .nil) (SR_name 5 rfl (vis_by rfl)))))) (STw_or (ST_not (ST_tru (SR.toV (R_isX1 X.isF.N ⟨rfl, X.b_isinstance, rfl⟩ (.ty ⟨rfl, X.b_ValueError, rfl⟩ (by decide) (by decide) (by decide) .nil) (SR_name 5 rfl (vis_by rfl)))))) (STw_or1 (TVcmp o_ne bls_ne (SE.toV (E_call (md := [false]) ⟨c__law_kinds.ex⟩ rfl (SB_cons (SE_name 5 rfl (vis_by rfl)) SB_nil))) (SE.toV (SE_lst (SA_cons (SE_name 6 rfl (vis_by rfl)) SA_nil))) rfl))))) (SSs_one (SS_ret (SR.toE SR_bl))) SSs_nil)
  (SSs_cons (SS_if (STw.t (STw_or (ST_tru (SE.toV (E_isXT X.isF.N ⟨rfl, X.b_isinstance, rfl⟩ (.ty ⟨rfl, X.b_KeyError, rfl⟩ (by decide) (by decide) (by decide) (.ty ⟨rfl, X.b_IndexError, rfl⟩ (by decide) (by decide) (by decide) (.ty ⟨rfl, X.b_TypeError, rfl⟩ (by decide) (by decide) (by decide) (.own rfl X.m_BadOther (by decide) (by decide +kernel) (.own rfl X.m_BadSpot (by decide) (by decide +kernel) .nil))))) (SR_name 5 rfl (vis_by rfl))))) (STw_or1 (ST_tru (SE.toV (E_isXT X.isF.N ⟨rfl, X.b_isinstance, rfl⟩ (.ty ⟨rfl, X.b_KeyError, rfl⟩ (by decide) (by decide) (by decide) (.ty ⟨rfl, X.b_TypeError, rfl⟩ (by decide) (by decide) (by decide) .nil)) (SR_name 8 rfl (vis_by rfl)))))))) (SSs_one (SS_ret (SR.toE SR_bl))) SSs_nil)
  (SSs_one (SS_if (STw.t (STw_or (ST_not (ST_tru (SE.toV (E_call (md := [false, true]) ⟨c__law_very.ex⟩ rfl (SB_cons (SE_name 7 rfl (vis_by rfl)) (SB_lend 3 SB_nil rfl (vis_by rfl))))))) (STw_or1 (ST_not (ST_tru (SE.toV (E_call (md := [false, true]) ⟨c__law_very.ex⟩ rfl (SB_cons (SE_name 9 rfl (vis_by rfl)) (SB_lend 4 SB_nil rfl (vis_by rfl)))))))))) (SSs_one (SS_ret (SR.toE SR_bl))) SSs_nil)))))))))))))
  (SSs_cons (SS_par (i := 3) (k := 4) (SA_cons (E_call (md := [true]) ⟨c__law_object.ex⟩ rfl (SB_lend 1 SB_nil rfl (vis_by rfl))) (SA_cons (E_call (md := [true]) ⟨c__law_object.ex⟩ rfl (SB_lend 1 SB_nil rfl (vis_by rfl))) SA_nil)) rfl rfl (by decide) rfl rfl (by decide) (by decide))
  (SSs_lab (SSs_forgetR (is := [3, 4, 5, 7, 8, 9]) (SSs_lab (SSs_forgetR (is := [4, 5, 8, 9]) (SSs_cons (SS_for (SI_seq (SE_tup (SA_cons (E_exn X.v_BadSpot.N rfl (SA_cons (E_al 3 rfl (vis_by rfl)) (SA_cons (E_al 4 rfl (vis_by rfl)) SA_nil))) (SA_cons (E_exnK X.v_BadSpot.N (.inr rfl) rfl rfl rfl (SK_cons (E_al 4 rfl (vis_by rfl)) (SK_cons (E_al 3 rfl (vis_by rfl)) SK_nil))) SA_nil)))) (SG_name 5 rfl (loc_by rfl) (.inl rfl)) (by decide) (SSs_one (SS_if (STw.t (STw_or (ST_not (ST_tru (SR.toV (R_isX1 X.isF.N ⟨rfl, X.b_isinstance, rfl⟩ (.own rfl X.m_RunError (by decide) (by decide +kernel) .nil) (SR_name 5 rfl (vis_by rfl)))))) (STw_or (TVcmp o_ne bls_ne (SE.toV (E_call (md := [false]) ⟨c__law_kinds.ex⟩ rfl (SB_cons (SE_name 5 rfl (vis_by rfl)) SB_nil))) (SE.toV (SE_lst SA_nil)) rfl) (STw_or (ST_not (ST_tru (SE.toV (E_call (md := [false, true]) ⟨c__law_very.ex⟩ rfl (SB_cons (SR.toE (SR_xat X.a_part.N (SR_name 5 rfl (vis_by rfl)) (fun _ => rfl))) (SB_lend 3 SB_nil rfl (vis_by rfl))))))) (STw_or1 (ST_not (ST_tru (SE.toV (E_call (md := [false, true]) ⟨c__law_very.ex⟩ rfl (SB_cons (SR.toE (SR_xat X.a_place.N (SR_name 5 rfl (vis_by rfl)) (fun _ => rfl))) (SB_lend 4 SB_nil rfl (vis_by rfl)))))))))))) (SSs_one (SS_ret (SR.toE SR_bl))) SSs_nil)))
  (SSs_one (SS_ret (Vcmp o_eq (SE.toV (E_call (md := [false]) ⟨c__law_caught.ex⟩ rfl (SB_cons (E_call (md := [true]) ⟨c__law_object.ex⟩ rfl (SB_lend 1 SB_nil rfl (vis_by rfl))) SB_nil))) (SE.toV (SE_tup (SA_cons (SE_lst (SA_cons (SR.toE SR_int) SA_nil)) (SA_cons (SE_lst SA_nil) (SA_cons (SR.toE SR_bl) SA_nil))))) rfl)))))))))))
open TLH in
theorem kP__law_kinds_first {Γ : Cs} (X : Fx Γ) {f C : Addr} {fd : FuncData} (F : Fun Γ.g.K "_law_kinds_first" "_law_kinds_first" (top 33) f fd) (S : FnScope N__law_kinds_first ["e"] (defScope (top 33))) (hC : Γ.g.cls "BadAnswer" = some C) : FnP Γ.P Γ.w Γ.g.K Γ.mg Γ.base 1 f fd C [] := by
  have hp : picks 0 (([isTab "BadAnswer" "BadExpression", isTab "BadAnswer" "BadValues", isTab "BadAnswer" "BadProcs", isTab "BadAnswer" "BadName"] ++ [isTab "BadAnswer" "BadProcedure", isTab "BadAnswer" "BadProgram", isTab "BadAnswer" "BadExpressionText", isTab "BadAnswer" "BadProgramText"]) ++ [isTab "BadAnswer" "BadLine", isTab "BadAnswer" "BadPoint", isTab "BadAnswer" "BadInputs", isTab "BadAnswer" "BadStanding"]) 12 = [] := by decide +kernel
  obtain ⟨oc, od, kV, doc, pm, an, cdv, ct, osl, rfl, lk, hcd⟩ := F.ex
  exact fnP_of lk hcd S fun A outer s H Q p hot hx hr hq => ⟨_, (pss_cons (ps_first (C := C) (p := p) (pa_bls (pe_isP X.isF rfl rfl List.mem_cons_self (by decide +kernel) hC (by decide +kernel) X.m_BadExpression (gl_of rfl rfl) X.b_isinstance rfl rfl (vis_by rfl) (gl_of rfl rfl)) (pa_bls (pe_isP X.isF rfl rfl List.mem_cons_self (by decide +kernel) hC (by decide +kernel) X.m_BadValues (gl_of rfl rfl) X.b_isinstance rfl rfl (vis_by rfl) (gl_of rfl rfl)) (pa_bls (pe_isP X.isF rfl rfl List.mem_cons_self (by decide +kernel) hC (by decide +kernel) X.m_BadProcs (gl_of rfl rfl) X.b_isinstance rfl rfl (vis_by rfl) (gl_of rfl rfl)) (pa_bls (pe_isP X.isF rfl rfl List.mem_cons_self (by decide +kernel) hC (by decide +kernel) X.m_BadName (gl_of rfl rfl) X.b_isinstance rfl rfl (vis_by rfl) (gl_of rfl rfl)) pa_bls0)))) S.nd rfl (loc_by rfl) (by decide))
      (pss_cons (ps_more (C := C) (p := p) (H0 := H) (acc := [isTab "BadAnswer" "BadExpression", isTab "BadAnswer" "BadValues", isTab "BadAnswer" "BadProcs", isTab "BadAnswer" "BadName"]) (pa_bls (pe_isP X.isF rfl rfl List.mem_cons_self (by decide +kernel) hC (by decide +kernel) X.m_BadProcedure (gl_of rfl rfl) X.b_isinstance rfl rfl (vis_by rfl) (gl_of rfl rfl)) (pa_bls (pe_isP X.isF rfl rfl List.mem_cons_self (by decide +kernel) hC (by decide +kernel) X.m_BadProgram (gl_of rfl rfl) X.b_isinstance rfl rfl (vis_by rfl) (gl_of rfl rfl)) (pa_bls (pe_isP X.isF rfl rfl List.mem_cons_self (by decide +kernel) hC (by decide +kernel) X.m_BadExpressionText (gl_of rfl rfl) X.b_isinstance rfl rfl (vis_by rfl) (gl_of rfl rfl)) (pa_bls (pe_isP X.isF rfl rfl List.mem_cons_self (by decide +kernel) hC (by decide +kernel) X.m_BadProgramText (gl_of rfl rfl) X.b_isinstance rfl rfl (vis_by rfl) (gl_of rfl rfl)) pa_bls0)))) rfl (vis_by rfl) (by decide))
      (pss_cons (ps_more (C := C) (p := p) (H0 := H) (acc := ([isTab "BadAnswer" "BadExpression", isTab "BadAnswer" "BadValues", isTab "BadAnswer" "BadProcs", isTab "BadAnswer" "BadName"] ++ [isTab "BadAnswer" "BadProcedure", isTab "BadAnswer" "BadProgram", isTab "BadAnswer" "BadExpressionText", isTab "BadAnswer" "BadProgramText"])) (pa_bls (pe_isP X.isF rfl rfl List.mem_cons_self (by decide +kernel) hC (by decide +kernel) X.m_BadLine (gl_of rfl rfl) X.b_isinstance rfl rfl (vis_by rfl) (gl_of rfl rfl)) (pa_bls (pe_isP X.isF rfl rfl List.mem_cons_self (by decide +kernel) hC (by decide +kernel) X.m_BadPoint (gl_of rfl rfl) X.b_isinstance rfl rfl (vis_by rfl) (gl_of rfl rfl)) (pa_bls (pe_isP X.isF rfl rfl List.mem_cons_self (by decide +kernel) hC (by decide +kernel) X.m_BadInputs (gl_of rfl rfl) X.b_isinstance rfl rfl (vis_by rfl) (gl_of rfl rfl)) (pa_bls (pe_isP X.isF rfl rfl List.mem_cons_self (by decide +kernel) hC (by decide +kernel) X.m_BadStanding (gl_of rfl rfl) X.b_isinstance rfl rfl (vis_by rfl) (gl_of rfl rfl)) pa_bls0)))) rfl (vis_by rfl) (by decide))
      (pss_one (ps_ret (pe_picks (C := C) (p := p) (H0 := H) (bs := (([isTab "BadAnswer" "BadExpression", isTab "BadAnswer" "BadValues", isTab "BadAnswer" "BadProcs", isTab "BadAnswer" "BadName"] ++ [isTab "BadAnswer" "BadProcedure", isTab "BadAnswer" "BadProgram", isTab "BadAnswer" "BadExpressionText", isTab "BadAnswer" "BadProgramText"]) ++ [isTab "BadAnswer" "BadLine", isTab "BadAnswer" "BadPoint", isTab "BadAnswer" "BadInputs", isTab "BadAnswer" "BadStanding"])) (n := 12) (c := 0) ⟨p, hot, List.mem_cons_self⟩ S.nd rfl rfl (gl_of rfl rfl) X.b_range (blkOk_by rfl) (by decide) (el_add rfl (fun _ _ _ _ _ => vis_by rfl)) (fun _ _ _ _ _ => pg_name S.nd rfl (loc_by rfl) (by first | exact .inr rfl | exact .inl rfl)) (fun _ _ _ _ _ => vis_by rfl) (fun _ _ _ _ _ => vis_by rfl))))))), ⟨⟨rfl, hx⟩, rfl, fun σ0 H0 k0 => ⟨k0, fun σ1 H1 k1 => ⟨k1, fun σ2 H2 k2 => ⟨k2, rfl, (by rw [hp]; exact hq)⟩⟩⟩⟩⟩
open TLH in
theorem kP__law_kinds_last {Γ : Cs} (X : Fx Γ) {f C : Addr} {fd : FuncData} (F : Fun Γ.g.K "_law_kinds_last" "_law_kinds_last" (top 34) f fd) (S : FnScope N__law_kinds_last ["e"] (defScope (top 34))) (hC : Γ.g.cls "BadAnswer" = some C) : FnP Γ.P Γ.w Γ.g.K Γ.mg Γ.base 1 f fd C [16] := by
  have hp : picks 12 (([isTab "BadAnswer" "BadChoice", isTab "BadAnswer" "BadChoices", isTab "BadAnswer" "BadMost", isTab "BadAnswer" "BadArgs"] ++ [isTab "BadAnswer" "BadAnswer", isTab "BadAnswer" "BadPaperText", isTab "BadAnswer" "BadTold", isTab "BadAnswer" "BadOrder"]) ++ [isTab "BadAnswer" "BadPlace", isTab "BadAnswer" "BadLineNumber", isTab "BadAnswer" "BadRuns", isTab "BadAnswer" "Ended"]) 12 = [16] := by decide +kernel
  obtain ⟨oc, od, kV, doc, pm, an, cdv, ct, osl, rfl, lk, hcd⟩ := F.ex
  exact fnP_of lk hcd S fun A outer s H Q p hot hx hr hq => ⟨_, (pss_cons (ps_first (C := C) (p := p) (pa_bls (pe_isP X.isF rfl rfl List.mem_cons_self (by decide +kernel) hC (by decide +kernel) X.m_BadChoice (gl_of rfl rfl) X.b_isinstance rfl rfl (vis_by rfl) (gl_of rfl rfl)) (pa_bls (pe_isP X.isF rfl rfl List.mem_cons_self (by decide +kernel) hC (by decide +kernel) X.m_BadChoices (gl_of rfl rfl) X.b_isinstance rfl rfl (vis_by rfl) (gl_of rfl rfl)) (pa_bls (pe_isP X.isF rfl rfl List.mem_cons_self (by decide +kernel) hC (by decide +kernel) X.m_BadMost (gl_of rfl rfl) X.b_isinstance rfl rfl (vis_by rfl) (gl_of rfl rfl)) (pa_bls (pe_isP X.isF rfl rfl List.mem_cons_self (by decide +kernel) hC (by decide +kernel) X.m_BadArgs (gl_of rfl rfl) X.b_isinstance rfl rfl (vis_by rfl) (gl_of rfl rfl)) pa_bls0)))) S.nd rfl (loc_by rfl) (by decide))
      (pss_cons (ps_more (C := C) (p := p) (H0 := H) (acc := [isTab "BadAnswer" "BadChoice", isTab "BadAnswer" "BadChoices", isTab "BadAnswer" "BadMost", isTab "BadAnswer" "BadArgs"]) (pa_bls (pe_isP X.isF rfl rfl List.mem_cons_self (by decide +kernel) hC (by decide +kernel) X.m_BadAnswer (gl_of rfl rfl) X.b_isinstance rfl rfl (vis_by rfl) (gl_of rfl rfl)) (pa_bls (pe_isP X.isF rfl rfl List.mem_cons_self (by decide +kernel) hC (by decide +kernel) X.m_BadPaperText (gl_of rfl rfl) X.b_isinstance rfl rfl (vis_by rfl) (gl_of rfl rfl)) (pa_bls (pe_isP X.isF rfl rfl List.mem_cons_self (by decide +kernel) hC (by decide +kernel) X.m_BadTold (gl_of rfl rfl) X.b_isinstance rfl rfl (vis_by rfl) (gl_of rfl rfl)) (pa_bls (pe_isP X.isF rfl rfl List.mem_cons_self (by decide +kernel) hC (by decide +kernel) X.m_BadOrder (gl_of rfl rfl) X.b_isinstance rfl rfl (vis_by rfl) (gl_of rfl rfl)) pa_bls0)))) rfl (vis_by rfl) (by decide))
      (pss_cons (ps_more (C := C) (p := p) (H0 := H) (acc := ([isTab "BadAnswer" "BadChoice", isTab "BadAnswer" "BadChoices", isTab "BadAnswer" "BadMost", isTab "BadAnswer" "BadArgs"] ++ [isTab "BadAnswer" "BadAnswer", isTab "BadAnswer" "BadPaperText", isTab "BadAnswer" "BadTold", isTab "BadAnswer" "BadOrder"])) (pa_bls (pe_isP X.isF rfl rfl List.mem_cons_self (by decide +kernel) hC (by decide +kernel) X.m_BadPlace (gl_of rfl rfl) X.b_isinstance rfl rfl (vis_by rfl) (gl_of rfl rfl)) (pa_bls (pe_isP X.isF rfl rfl List.mem_cons_self (by decide +kernel) hC (by decide +kernel) X.m_BadLineNumber (gl_of rfl rfl) X.b_isinstance rfl rfl (vis_by rfl) (gl_of rfl rfl)) (pa_bls (pe_isP X.isF rfl rfl List.mem_cons_self (by decide +kernel) hC (by decide +kernel) X.m_BadRuns (gl_of rfl rfl) X.b_isinstance rfl rfl (vis_by rfl) (gl_of rfl rfl)) (pa_bls (pe_isP X.isF rfl rfl List.mem_cons_self (by decide +kernel) hC (by decide +kernel) X.m_Ended (gl_of rfl rfl) X.b_isinstance rfl rfl (vis_by rfl) (gl_of rfl rfl)) pa_bls0)))) rfl (vis_by rfl) (by decide))
      (pss_one (ps_ret (pe_picks (C := C) (p := p) (H0 := H) (bs := (([isTab "BadAnswer" "BadChoice", isTab "BadAnswer" "BadChoices", isTab "BadAnswer" "BadMost", isTab "BadAnswer" "BadArgs"] ++ [isTab "BadAnswer" "BadAnswer", isTab "BadAnswer" "BadPaperText", isTab "BadAnswer" "BadTold", isTab "BadAnswer" "BadOrder"]) ++ [isTab "BadAnswer" "BadPlace", isTab "BadAnswer" "BadLineNumber", isTab "BadAnswer" "BadRuns", isTab "BadAnswer" "Ended"])) (n := 12) (c := 12) ⟨p, hot, List.mem_cons_self⟩ S.nd rfl rfl (gl_of rfl rfl) X.b_range (blkOk_by rfl) (by decide) (el_add rfl (fun _ _ _ _ _ => vis_by rfl)) (fun _ _ _ _ _ => pg_name S.nd rfl (loc_by rfl) (by first | exact .inr rfl | exact .inl rfl)) (fun _ _ _ _ _ => vis_by rfl) (fun _ _ _ _ _ => vis_by rfl))))))), ⟨⟨rfl, hx⟩, rfl, fun σ0 H0 k0 => ⟨k0, fun σ1 H1 k1 => ⟨k1, fun σ2 H2 k2 => ⟨k2, rfl, (by rw [hp]; exact hq)⟩⟩⟩⟩⟩
open TLH in
theorem kP__law_kinds {Γ : Cs} {f C : Addr} {fd : FuncData} (F : Fun Γ.g.K "_law_kinds" "_law_kinds" (top 35) f fd) (S : FnScope N__law_kinds ["e"] (defScope (top 35))) {f1 f2 : Addr} {fd1 fd2 : FuncData} (F1 : FnP Γ.P Γ.w Γ.g.K Γ.mg Γ.base 1 f1 fd1 C []) (F2 : FnP Γ.P Γ.w Γ.g.K Γ.mg Γ.base 1 f2 fd2 C [16]) (m1 : Γ.mg "_law_kinds_first" = some (.ref f1)) (m2 : Γ.mg "_law_kinds_last" = some (.ref f2)) (k1 : PySem.W.keepIn Γ.g.K (.ref f1) = true) (k2 : PySem.W.keepIn Γ.g.K (.ref f2) = true) (b1 : Binds Γ.g.K fd1 ["e"] []) (b2 : Binds Γ.g.K fd2 ["e"] []) : FnP Γ.P Γ.w Γ.g.K Γ.mg Γ.base 2 f fd C [16] := by
  obtain ⟨oc, od, kV, doc, pm, an, cdv, ct, osl, rfl, lk, hcd⟩ := F.ex
  exact fnP_cat lk hcd S F1 F2 m1 m2 k1 k2 b1 b2 rfl rfl rfl (vis_by rfl) (by decide) (by decide) (by decide) (by decide) (by decide)
end LK
end

-- text K00r
section
set_option Elab.async false
set_option linter.all false
set_option maxRecDepth 100000
set_option maxHeartbeats 0
namespace LK
open PySem PySem.Spec PyProof.Rows L2 TL
abbrev R : PySem.W.OpenRow := PySem.W.OpenLaw.row PySem.Challenge.rw_runorproof_k00_errors_made
def loose : List Str := ([("RunError" : Str), ("BadOther" : Str), ("BadExpression" : Str), ("BadValues" : Str), ("BadProcs" : Str), ("BadName" : Str), ("BadProcedure" : Str), ("BadProgram" : Str), ("BadExpressionText" : Str), ("BadProgramText" : Str), ("BadLine" : Str), ("BadPoint" : Str), ("BadInputs" : Str), ("BadStanding" : Str), ("BadChoice" : Str), ("BadChoices" : Str), ("BadMost" : Str), ("BadArgs" : Str), ("BadAnswer" : Str), ("BadPaperText" : Str), ("BadTold" : Str), ("BadOrder" : Str), ("BadPlace" : Str), ("BadSpot" : Str), ("BadLineNumber" : Str), ("BadRuns" : Str), ("Ended" : Str), ("_law_start" : Str), ("_law_pick" : Str), ("_law_between" : Str), ("_law_kinds_first" : Str), ("_law_kinds_last" : Str), ("_law_kinds" : Str), ("_law_form_made" : Str), ("_law_text_made" : Str), ("_law_other_made" : Str)] : List Str) ++ ([("_law_made_at" : Str), ("_law_object" : Str), ("_law_very" : Str), ("_law_caught" : Str)] : List Str)
def topC (i : Nat) : Stmt := match top i with
  | .ClassDef (body := b) .. => b.getD 0 (.Pass ⟨0, 0, 0, 0⟩)
  | s => s
def gnames : List Str := ([("_law_start" : Str), ("_law_pick" : Str), ("_law_between" : Str), ("_law_kinds_first" : Str), ("_law_kinds_last" : Str), ("_law_kinds" : Str), ("_law_form_made" : Str), ("_law_text_made" : Str), ("_law_other_made" : Str), ("_law_made_at" : Str), ("_law_object" : Str), ("_law_very" : Str), ("_law_caught" : Str), ("law" : Str), ("RunError" : Str), ("BadOther" : Str), ("BadExpression" : Str), ("BadValues" : Str), ("BadProcs" : Str), ("BadName" : Str), ("BadProcedure" : Str), ("BadProgram" : Str), ("BadExpressionText" : Str), ("BadProgramText" : Str), ("BadLine" : Str), ("BadPoint" : Str), ("BadInputs" : Str), ("BadStanding" : Str), ("BadChoice" : Str), ("BadChoices" : Str), ("BadMost" : Str), ("BadArgs" : Str), ("BadAnswer" : Str), ("BadPaperText" : Str), ("BadTold" : Str), ("BadOrder" : Str)] : List Str) ++ ([("BadPlace" : Str), ("BadSpot" : Str), ("BadLineNumber" : Str), ("BadRuns" : Str), ("Ended" : Str)] : List Str)
def frees : List Str := ([("IndexError" : Str), ("KeyError" : Str), ("TypeError" : Str), ("ValueError" : Str), ("abs" : Str), ("bool" : Str), ("dict" : Str), ("int" : Str), ("isinstance" : Str), ("len" : Str), ("list" : Str), ("max" : Str), ("range" : Str), ("str" : Str), ("tuple" : Str)] : List Str)
def fa : List He.Fa := gnames.map .glo ++ frees.map .free
def dF__law_start : He.DefD := ⟨("_law_start", none), "_law_start", "_law_start", defArgs (top 30), defBody (top 30), defScope (top 30), [], []⟩
def dF__law_pick : He.DefD := ⟨("_law_pick", none), "_law_pick", "_law_pick", defArgs (top 31), defBody (top 31), defScope (top 31), [], []⟩
def dF__law_between : He.DefD := ⟨("_law_between", none), "_law_between", "_law_between", defArgs (top 32), defBody (top 32), defScope (top 32), [], []⟩
def dF__law_kinds_first : He.DefD := ⟨("_law_kinds_first", none), "_law_kinds_first", "_law_kinds_first", defArgs (top 33), defBody (top 33), defScope (top 33), [], []⟩
def dF__law_kinds_last : He.DefD := ⟨("_law_kinds_last", none), "_law_kinds_last", "_law_kinds_last", defArgs (top 34), defBody (top 34), defScope (top 34), [], []⟩
def dF__law_kinds : He.DefD := ⟨("_law_kinds", none), "_law_kinds", "_law_kinds", defArgs (top 35), defBody (top 35), defScope (top 35), [], []⟩
def dF__law_form_made : He.DefD := ⟨("_law_form_made", none), "_law_form_made", "_law_form_made", defArgs (top 36), defBody (top 36), defScope (top 36), [], []⟩
def dF__law_text_made : He.DefD := ⟨("_law_text_made", none), "_law_text_made", "_law_text_made", defArgs (top 37), defBody (top 37), defScope (top 37), [], []⟩
def dF__law_other_made : He.DefD := ⟨("_law_other_made", none), "_law_other_made", "_law_other_made", defArgs (top 38), defBody (top 38), defScope (top 38), [], []⟩
def dF__law_made_at : He.DefD := ⟨("_law_made_at", none), "_law_made_at", "_law_made_at", defArgs (top 39), defBody (top 39), defScope (top 39), [], []⟩
def dF__law_object : He.DefD := ⟨("_law_object", none), "_law_object", "_law_object", defArgs (top 40), defBody (top 40), defScope (top 40), [], []⟩
def dF__law_very : He.DefD := ⟨("_law_very", none), "_law_very", "_law_very", defArgs (top 41), defBody (top 41), defScope (top 41), [], []⟩
def dF__law_caught : He.DefD := ⟨("_law_caught", none), "_law_caught", "_law_caught", defArgs (top 42), defBody (top 42), defScope (top 42), [], []⟩
def dF_law : He.DefD := ⟨("law", none), "law", "law", defArgs (top 43), defBody (top 43), defScope (top 43), [], []⟩
def dX_BadOther : He.DefD := ⟨("BadOther", some "__init__"), "__init__", "BadOther.__init__", defArgs (topC 2), defBody (topC 2), defScope (topC 2), [], []⟩
def dX_BadExpression : He.DefD := ⟨("BadExpression", some "__init__"), "__init__", "BadExpression.__init__", defArgs (topC 4), defBody (topC 4), defScope (topC 4), [], []⟩
def dX_BadValues : He.DefD := ⟨("BadValues", some "__init__"), "__init__", "BadValues.__init__", defArgs (topC 5), defBody (topC 5), defScope (topC 5), [], []⟩
def dX_BadProcs : He.DefD := ⟨("BadProcs", some "__init__"), "__init__", "BadProcs.__init__", defArgs (topC 6), defBody (topC 6), defScope (topC 6), [], []⟩
def dX_BadName : He.DefD := ⟨("BadName", some "__init__"), "__init__", "BadName.__init__", defArgs (topC 7), defBody (topC 7), defScope (topC 7), [], []⟩
def dX_BadProcedure : He.DefD := ⟨("BadProcedure", some "__init__"), "__init__", "BadProcedure.__init__", defArgs (topC 8), defBody (topC 8), defScope (topC 8), [], []⟩
def dX_BadProgram : He.DefD := ⟨("BadProgram", some "__init__"), "__init__", "BadProgram.__init__", defArgs (topC 9), defBody (topC 9), defScope (topC 9), [], []⟩
def dX_BadExpressionText : He.DefD := ⟨("BadExpressionText", some "__init__"), "__init__", "BadExpressionText.__init__", defArgs (topC 10), defBody (topC 10), defScope (topC 10), [], []⟩
def dX_BadProgramText : He.DefD := ⟨("BadProgramText", some "__init__"), "__init__", "BadProgramText.__init__", defArgs (topC 11), defBody (topC 11), defScope (topC 11), [], []⟩
def dX_BadLine : He.DefD := ⟨("BadLine", some "__init__"), "__init__", "BadLine.__init__", defArgs (topC 12), defBody (topC 12), defScope (topC 12), [], []⟩
def dX_BadPoint : He.DefD := ⟨("BadPoint", some "__init__"), "__init__", "BadPoint.__init__", defArgs (topC 13), defBody (topC 13), defScope (topC 13), [], []⟩
def dX_BadInputs : He.DefD := ⟨("BadInputs", some "__init__"), "__init__", "BadInputs.__init__", defArgs (topC 14), defBody (topC 14), defScope (topC 14), [], []⟩
def dX_BadStanding : He.DefD := ⟨("BadStanding", some "__init__"), "__init__", "BadStanding.__init__", defArgs (topC 15), defBody (topC 15), defScope (topC 15), [], []⟩
def dX_BadChoice : He.DefD := ⟨("BadChoice", some "__init__"), "__init__", "BadChoice.__init__", defArgs (topC 16), defBody (topC 16), defScope (topC 16), [], []⟩
def dX_BadChoices : He.DefD := ⟨("BadChoices", some "__init__"), "__init__", "BadChoices.__init__", defArgs (topC 17), defBody (topC 17), defScope (topC 17), [], []⟩
def dX_BadMost : He.DefD := ⟨("BadMost", some "__init__"), "__init__", "BadMost.__init__", defArgs (topC 18), defBody (topC 18), defScope (topC 18), [], []⟩
def dX_BadArgs : He.DefD := ⟨("BadArgs", some "__init__"), "__init__", "BadArgs.__init__", defArgs (topC 19), defBody (topC 19), defScope (topC 19), [], []⟩
def dX_BadAnswer : He.DefD := ⟨("BadAnswer", some "__init__"), "__init__", "BadAnswer.__init__", defArgs (topC 20), defBody (topC 20), defScope (topC 20), [], []⟩
def dX_BadPaperText : He.DefD := ⟨("BadPaperText", some "__init__"), "__init__", "BadPaperText.__init__", defArgs (topC 21), defBody (topC 21), defScope (topC 21), [], []⟩
def dX_BadTold : He.DefD := ⟨("BadTold", some "__init__"), "__init__", "BadTold.__init__", defArgs (topC 22), defBody (topC 22), defScope (topC 22), [], []⟩
def dX_BadOrder : He.DefD := ⟨("BadOrder", some "__init__"), "__init__", "BadOrder.__init__", defArgs (topC 23), defBody (topC 23), defScope (topC 23), [], []⟩
def dX_BadPlace : He.DefD := ⟨("BadPlace", some "__init__"), "__init__", "BadPlace.__init__", defArgs (topC 24), defBody (topC 24), defScope (topC 24), [], []⟩
def dX_BadSpot : He.DefD := ⟨("BadSpot", some "__init__"), "__init__", "BadSpot.__init__", defArgs (topC 25), defBody (topC 25), defScope (topC 25), [], []⟩
def dX_BadLineNumber : He.DefD := ⟨("BadLineNumber", some "__init__"), "__init__", "BadLineNumber.__init__", defArgs (topC 26), defBody (topC 26), defScope (topC 26), [], []⟩
def dX_BadRuns : He.DefD := ⟨("BadRuns", some "__init__"), "__init__", "BadRuns.__init__", defArgs (topC 27), defBody (topC 27), defScope (topC 27), [], []⟩
def dX_Ended : He.DefD := ⟨("Ended", some "__init__"), "__init__", "Ended.__init__", defArgs (topC 28), defBody (topC 28), defScope (topC 28), [], []⟩
def fnl : List He.DefD := ([dF__law_start, dF__law_pick, dF__law_between, dF__law_kinds_first, dF__law_kinds_last, dF__law_kinds, dF__law_form_made, dF__law_text_made, dF__law_other_made, dF__law_made_at, dF__law_object, dF__law_very, dF__law_caught, dF_law, dX_BadOther, dX_BadExpression, dX_BadValues, dX_BadProcs, dX_BadName, dX_BadProcedure, dX_BadProgram, dX_BadExpressionText, dX_BadProgramText, dX_BadLine, dX_BadPoint, dX_BadInputs, dX_BadStanding, dX_BadChoice, dX_BadChoices, dX_BadMost] : List He.DefD) ++ ([dX_BadArgs, dX_BadAnswer, dX_BadPaperText, dX_BadTold, dX_BadOrder, dX_BadPlace, dX_BadSpot, dX_BadLineNumber, dX_BadRuns, dX_Ended] : List He.DefD)
def mkl : List (Str × List Str) := ([(("BadOther" : Str), [("other" : Str)]), (("BadExpression" : Str), [("expression" : Str)]), (("BadValues" : Str), [("given" : Str)]), (("BadProcs" : Str), [("index" : Str)]), (("BadName" : Str), [("f" : Str)]), (("BadProcedure" : Str), [("procedure" : Str)]), (("BadProgram" : Str), [("program" : Str)]), (("BadExpressionText" : Str), [("text" : Str)]), (("BadProgramText" : Str), [("line" : Str)]), (("BadLine" : Str), [("line" : Str)]), (("BadPoint" : Str), [("point" : Str)]), (("BadInputs" : Str), [("inputs" : Str)]), (("BadStanding" : Str), [("standing" : Str)]), (("BadChoice" : Str), [("choice" : Str)]), (("BadChoices" : Str), [("index" : Str)]), (("BadMost" : Str), [("most" : Str)]), (("BadArgs" : Str), [("given" : Str)]), (("BadAnswer" : Str), [("answer" : Str)]), (("BadPaperText" : Str), [("line" : Str)]), (("BadTold" : Str), [("told" : Str)]), (("BadOrder" : Str), [("index" : Str)]), (("BadPlace" : Str), [("place" : Str)]), (("BadSpot" : Str), [("part" : Str), ("place" : Str)]), (("BadLineNumber" : Str), [("line" : Str)]), (("BadRuns" : Str), [("index" : Str)]), (("Ended" : Str), [("outcome" : Str)])] : List (Str × List Str))
def barel : List Str := [("RunError" : Str)]
def exB (K : PySem.W.Frag) : Bool := (mkl.all fun p => mkB K p.1 p.2) && ((excls.all fun c => mroB K c && excCB K (He.ga K c)) && (barel.all fun c => PySem.W.excIn K (He.ga K c) He.veBase "ValueError.__new__" && PySem.W.keepIn K (.ref (He.ga K c)))) && TLH.exmB K "BadAnswer" "RunError"
abbrev hk : PySem.W.Hook := He.hookX 4 fa fnl [] [] exB
def ob (s : PySem.W.SharedT) : He.AlX := He.obsX 4 fa fnl [] [] exB (HandSHeadRun.getT s)
theorem ob_eq (s : PySem.W.SharedT) : ob s = hk.obs s.abs := He.obsX_eq (HandSHeadRun.getT_eq s)
theorem run (w : World) : HandSHeadRun.RunEq R (PySem.W.view R.prog [43]) hk ob 20000 loose w := by
  intro os
  kernel_rfl
end LK
end

-- text K00h
section
set_option Elab.async false
set_option linter.all false
set_option maxRecDepth 100000
set_option maxHeartbeats 0
namespace LK
open PySem PySem.Spec PyProof.Rows L2 TL
structure HdF (w : World) (K : PySem.W.Frag) (mg : Str → Option Value) : Prop where
  glo : ∀ x ∈ gnames, mg x = some (.ref (He.ga K x))
  free : ∀ x ∈ frees, mg x = none
  mkf : ∀ p ∈ mkl, MkF K p.1 p.2
  mro : ∀ c ∈ excls, MroF K c
  exc : ∀ c ∈ excls, ExcC K (He.ga K c)
  bare : ∀ c ∈ barel, (PySem.W.excIn K (He.ga K c) He.veBase "ValueError.__new__" && PySem.W.keepIn K (.ref (He.ga K c))) = true
  exm : TLH.exmB K "BadAnswer" "RunError" = true
  dfs : He.SaysD fa fnl K
theorem hdF_of {w : World} {K : PySem.W.Frag} {mg : Str → Option Value} {h : Heap} (X : K.In h) (G : h.Ns mainGlobals mg) (c : He.SaysX fa fnl [] [] exB w h K) : HdF w K mg := by
  obtain ⟨h1, h2⟩ := He.ba (He.ba c.more).1
  obtain ⟨h3, h4⟩ := He.ba h2
  refine ⟨fun x m => He.glo_ok X G (c.t.d.facts (f := .glo x) (List.mem_append_left _ (List.mem_map_of_mem m))), fun x m => He.free_ok X G (c.t.d.facts (f := .free x) (List.mem_append_right _ (List.mem_map_of_mem m))), fun p m => mkB_ok (List.all_eq_true.mp h1 p m), fun q m => mroB_ok (He.ba (List.all_eq_true.mp h3 q m)).1, fun q m => excC_ok (He.ba (List.all_eq_true.mp h3 q m)).2, fun q m => List.all_eq_true.mp h4 q m, (He.ba c.more).2, c.t.d⟩
abbrev gl (K : PySem.W.Frag) : Glb := ⟨K, fun c => some (He.ga K c), fun x => some (.ref (He.ga K x)), []⟩
noncomputable abbrev Gm (P : Program) (w : World) (K : PySem.W.Frag) (mg : Str → Option Value) (base : Heap) (n : Nat) : Cs := ⟨gl K, P, w, mg, base, [], n + 2, callN n, none⟩
section
variable {P : Program} {w : World} {K : PySem.W.Frag} {mg : Str → Option Value} {base : Heap}
theorem fd__law_start (Y : HdF w K mg) : ∃ fd, FunD K "_law_start" "_law_start" (defArgs (top 30)) (defBody (top 30)) (defScope (top 30)) [] [] (He.ga K "_law_start") fd := Y.dfs.def_ 0 (d := dF__law_start) rfl
theorem fd__law_pick (Y : HdF w K mg) : ∃ fd, FunD K "_law_pick" "_law_pick" (defArgs (top 31)) (defBody (top 31)) (defScope (top 31)) [] [] (He.ga K "_law_pick") fd := Y.dfs.def_ 1 (d := dF__law_pick) rfl
theorem fd__law_between (Y : HdF w K mg) : ∃ fd, FunD K "_law_between" "_law_between" (defArgs (top 32)) (defBody (top 32)) (defScope (top 32)) [] [] (He.ga K "_law_between") fd := Y.dfs.def_ 2 (d := dF__law_between) rfl
theorem fd__law_kinds_first (Y : HdF w K mg) : ∃ fd, FunD K "_law_kinds_first" "_law_kinds_first" (defArgs (top 33)) (defBody (top 33)) (defScope (top 33)) [] [] (He.ga K "_law_kinds_first") fd := Y.dfs.def_ 3 (d := dF__law_kinds_first) rfl
theorem fd__law_kinds_last (Y : HdF w K mg) : ∃ fd, FunD K "_law_kinds_last" "_law_kinds_last" (defArgs (top 34)) (defBody (top 34)) (defScope (top 34)) [] [] (He.ga K "_law_kinds_last") fd := Y.dfs.def_ 4 (d := dF__law_kinds_last) rfl
theorem fd__law_kinds (Y : HdF w K mg) : ∃ fd, FunD K "_law_kinds" "_law_kinds" (defArgs (top 35)) (defBody (top 35)) (defScope (top 35)) [] [] (He.ga K "_law_kinds") fd := Y.dfs.def_ 5 (d := dF__law_kinds) rfl
theorem fd__law_form_made (Y : HdF w K mg) : ∃ fd, FunD K "_law_form_made" "_law_form_made" (defArgs (top 36)) (defBody (top 36)) (defScope (top 36)) [] [] (He.ga K "_law_form_made") fd := Y.dfs.def_ 6 (d := dF__law_form_made) rfl
theorem fd__law_text_made (Y : HdF w K mg) : ∃ fd, FunD K "_law_text_made" "_law_text_made" (defArgs (top 37)) (defBody (top 37)) (defScope (top 37)) [] [] (He.ga K "_law_text_made") fd := Y.dfs.def_ 7 (d := dF__law_text_made) rfl
theorem fd__law_other_made (Y : HdF w K mg) : ∃ fd, FunD K "_law_other_made" "_law_other_made" (defArgs (top 38)) (defBody (top 38)) (defScope (top 38)) [] [] (He.ga K "_law_other_made") fd := Y.dfs.def_ 8 (d := dF__law_other_made) rfl
theorem fd__law_made_at (Y : HdF w K mg) : ∃ fd, FunD K "_law_made_at" "_law_made_at" (defArgs (top 39)) (defBody (top 39)) (defScope (top 39)) [] [] (He.ga K "_law_made_at") fd := Y.dfs.def_ 9 (d := dF__law_made_at) rfl
theorem fd__law_object (Y : HdF w K mg) : ∃ fd, FunD K "_law_object" "_law_object" (defArgs (top 40)) (defBody (top 40)) (defScope (top 40)) [] [] (He.ga K "_law_object") fd := Y.dfs.def_ 10 (d := dF__law_object) rfl
theorem fd__law_very (Y : HdF w K mg) : ∃ fd, FunD K "_law_very" "_law_very" (defArgs (top 41)) (defBody (top 41)) (defScope (top 41)) [] [] (He.ga K "_law_very") fd := Y.dfs.def_ 11 (d := dF__law_very) rfl
theorem fd__law_caught (Y : HdF w K mg) : ∃ fd, FunD K "_law_caught" "_law_caught" (defArgs (top 42)) (defBody (top 42)) (defScope (top 42)) [] [] (He.ga K "_law_caught") fd := Y.dfs.def_ 12 (d := dF__law_caught) rfl
theorem fd_law (Y : HdF w K mg) : ∃ fd, FunD K "law" "law" (defArgs (top 43)) (defBody (top 43)) (defScope (top 43)) [] [] (He.ga K "law") fd := Y.dfs.def_ 13 (d := dF_law) rfl
theorem vx_BadOther (Y : HdF w K mg) (n : Nat) : ExcV (Gm P w K mg base n) "BadOther" ["other"] := by
  obtain ⟨fd, F⟩ := Y.dfs.def_ 14 (d := dX_BadOther) rfl
  exact excV1_by (st := (topC 2)) (Y.glo _ (by decide +kernel)) rfl (by show 2 ≤ n + 2; omega) (Y.mkf ("BadOther", ["other"]) (by decide +kernel)) F (fnSc_by (N := ["self", "other"]) (P := ["self", "other"]) (sc := defScope (topC 2)) (by decide +kernel)) rfl (FunD.bindsN F fun _ _ _ _ _ _ us hl => match us, hl with | [_, _], _ => rfl) (fun s u w => bind_by F (fun _ _ _ _ _ _ => rfl) s) (vis_by (by decide +kernel)) (vis_by (by decide +kernel))
theorem vx_BadExpression (Y : HdF w K mg) (n : Nat) : ExcV (Gm P w K mg base n) "BadExpression" ["expression"] := by
  obtain ⟨fd, F⟩ := Y.dfs.def_ 15 (d := dX_BadExpression) rfl
  exact excV1_by (st := (topC 4)) (Y.glo _ (by decide +kernel)) rfl (by show 2 ≤ n + 2; omega) (Y.mkf ("BadExpression", ["expression"]) (by decide +kernel)) F (fnSc_by (N := ["self", "expression"]) (P := ["self", "expression"]) (sc := defScope (topC 4)) (by decide +kernel)) rfl (FunD.bindsN F fun _ _ _ _ _ _ us hl => match us, hl with | [_, _], _ => rfl) (fun s u w => bind_by F (fun _ _ _ _ _ _ => rfl) s) (vis_by (by decide +kernel)) (vis_by (by decide +kernel))
theorem vx_BadValues (Y : HdF w K mg) (n : Nat) : ExcV (Gm P w K mg base n) "BadValues" ["given"] := by
  obtain ⟨fd, F⟩ := Y.dfs.def_ 16 (d := dX_BadValues) rfl
  exact excV1_by (st := (topC 5)) (Y.glo _ (by decide +kernel)) rfl (by show 2 ≤ n + 2; omega) (Y.mkf ("BadValues", ["given"]) (by decide +kernel)) F (fnSc_by (N := ["self", "given"]) (P := ["self", "given"]) (sc := defScope (topC 5)) (by decide +kernel)) rfl (FunD.bindsN F fun _ _ _ _ _ _ us hl => match us, hl with | [_, _], _ => rfl) (fun s u w => bind_by F (fun _ _ _ _ _ _ => rfl) s) (vis_by (by decide +kernel)) (vis_by (by decide +kernel))
theorem vx_BadProcs (Y : HdF w K mg) (n : Nat) : ExcV (Gm P w K mg base n) "BadProcs" ["index"] := by
  obtain ⟨fd, F⟩ := Y.dfs.def_ 17 (d := dX_BadProcs) rfl
  exact excV1_by (st := (topC 6)) (Y.glo _ (by decide +kernel)) rfl (by show 2 ≤ n + 2; omega) (Y.mkf ("BadProcs", ["index"]) (by decide +kernel)) F (fnSc_by (N := ["self", "index"]) (P := ["self", "index"]) (sc := defScope (topC 6)) (by decide +kernel)) rfl (FunD.bindsN F fun _ _ _ _ _ _ us hl => match us, hl with | [_, _], _ => rfl) (fun s u w => bind_by F (fun _ _ _ _ _ _ => rfl) s) (vis_by (by decide +kernel)) (vis_by (by decide +kernel))
theorem vx_BadName (Y : HdF w K mg) (n : Nat) : ExcV (Gm P w K mg base n) "BadName" ["f"] := by
  obtain ⟨fd, F⟩ := Y.dfs.def_ 18 (d := dX_BadName) rfl
  exact excV1_by (st := (topC 7)) (Y.glo _ (by decide +kernel)) rfl (by show 2 ≤ n + 2; omega) (Y.mkf ("BadName", ["f"]) (by decide +kernel)) F (fnSc_by (N := ["self", "f"]) (P := ["self", "f"]) (sc := defScope (topC 7)) (by decide +kernel)) rfl (FunD.bindsN F fun _ _ _ _ _ _ us hl => match us, hl with | [_, _], _ => rfl) (fun s u w => bind_by F (fun _ _ _ _ _ _ => rfl) s) (vis_by (by decide +kernel)) (vis_by (by decide +kernel))
theorem vx_BadProcedure (Y : HdF w K mg) (n : Nat) : ExcV (Gm P w K mg base n) "BadProcedure" ["procedure"] := by
  obtain ⟨fd, F⟩ := Y.dfs.def_ 19 (d := dX_BadProcedure) rfl
  exact excV1_by (st := (topC 8)) (Y.glo _ (by decide +kernel)) rfl (by show 2 ≤ n + 2; omega) (Y.mkf ("BadProcedure", ["procedure"]) (by decide +kernel)) F (fnSc_by (N := ["self", "procedure"]) (P := ["self", "procedure"]) (sc := defScope (topC 8)) (by decide +kernel)) rfl (FunD.bindsN F fun _ _ _ _ _ _ us hl => match us, hl with | [_, _], _ => rfl) (fun s u w => bind_by F (fun _ _ _ _ _ _ => rfl) s) (vis_by (by decide +kernel)) (vis_by (by decide +kernel))
theorem vx_BadProgram (Y : HdF w K mg) (n : Nat) : ExcV (Gm P w K mg base n) "BadProgram" ["program"] := by
  obtain ⟨fd, F⟩ := Y.dfs.def_ 20 (d := dX_BadProgram) rfl
  exact excV1_by (st := (topC 9)) (Y.glo _ (by decide +kernel)) rfl (by show 2 ≤ n + 2; omega) (Y.mkf ("BadProgram", ["program"]) (by decide +kernel)) F (fnSc_by (N := ["self", "program"]) (P := ["self", "program"]) (sc := defScope (topC 9)) (by decide +kernel)) rfl (FunD.bindsN F fun _ _ _ _ _ _ us hl => match us, hl with | [_, _], _ => rfl) (fun s u w => bind_by F (fun _ _ _ _ _ _ => rfl) s) (vis_by (by decide +kernel)) (vis_by (by decide +kernel))
theorem vx_BadExpressionText (Y : HdF w K mg) (n : Nat) : ExcV (Gm P w K mg base n) "BadExpressionText" ["text"] := by
  obtain ⟨fd, F⟩ := Y.dfs.def_ 21 (d := dX_BadExpressionText) rfl
  exact excV1_by (st := (topC 10)) (Y.glo _ (by decide +kernel)) rfl (by show 2 ≤ n + 2; omega) (Y.mkf ("BadExpressionText", ["text"]) (by decide +kernel)) F (fnSc_by (N := ["self", "text"]) (P := ["self", "text"]) (sc := defScope (topC 10)) (by decide +kernel)) rfl (FunD.bindsN F fun _ _ _ _ _ _ us hl => match us, hl with | [_, _], _ => rfl) (fun s u w => bind_by F (fun _ _ _ _ _ _ => rfl) s) (vis_by (by decide +kernel)) (vis_by (by decide +kernel))
theorem vx_BadProgramText (Y : HdF w K mg) (n : Nat) : ExcV (Gm P w K mg base n) "BadProgramText" ["line"] := by
  obtain ⟨fd, F⟩ := Y.dfs.def_ 22 (d := dX_BadProgramText) rfl
  exact excV1_by (st := (topC 11)) (Y.glo _ (by decide +kernel)) rfl (by show 2 ≤ n + 2; omega) (Y.mkf ("BadProgramText", ["line"]) (by decide +kernel)) F (fnSc_by (N := ["self", "line"]) (P := ["self", "line"]) (sc := defScope (topC 11)) (by decide +kernel)) rfl (FunD.bindsN F fun _ _ _ _ _ _ us hl => match us, hl with | [_, _], _ => rfl) (fun s u w => bind_by F (fun _ _ _ _ _ _ => rfl) s) (vis_by (by decide +kernel)) (vis_by (by decide +kernel))
theorem vx_BadLine (Y : HdF w K mg) (n : Nat) : ExcV (Gm P w K mg base n) "BadLine" ["line"] := by
  obtain ⟨fd, F⟩ := Y.dfs.def_ 23 (d := dX_BadLine) rfl
  exact excV1_by (st := (topC 12)) (Y.glo _ (by decide +kernel)) rfl (by show 2 ≤ n + 2; omega) (Y.mkf ("BadLine", ["line"]) (by decide +kernel)) F (fnSc_by (N := ["self", "line"]) (P := ["self", "line"]) (sc := defScope (topC 12)) (by decide +kernel)) rfl (FunD.bindsN F fun _ _ _ _ _ _ us hl => match us, hl with | [_, _], _ => rfl) (fun s u w => bind_by F (fun _ _ _ _ _ _ => rfl) s) (vis_by (by decide +kernel)) (vis_by (by decide +kernel))
theorem vx_BadPoint (Y : HdF w K mg) (n : Nat) : ExcV (Gm P w K mg base n) "BadPoint" ["point"] := by
  obtain ⟨fd, F⟩ := Y.dfs.def_ 24 (d := dX_BadPoint) rfl
  exact excV1_by (st := (topC 13)) (Y.glo _ (by decide +kernel)) rfl (by show 2 ≤ n + 2; omega) (Y.mkf ("BadPoint", ["point"]) (by decide +kernel)) F (fnSc_by (N := ["self", "point"]) (P := ["self", "point"]) (sc := defScope (topC 13)) (by decide +kernel)) rfl (FunD.bindsN F fun _ _ _ _ _ _ us hl => match us, hl with | [_, _], _ => rfl) (fun s u w => bind_by F (fun _ _ _ _ _ _ => rfl) s) (vis_by (by decide +kernel)) (vis_by (by decide +kernel))
theorem vx_BadInputs (Y : HdF w K mg) (n : Nat) : ExcV (Gm P w K mg base n) "BadInputs" ["inputs"] := by
  obtain ⟨fd, F⟩ := Y.dfs.def_ 25 (d := dX_BadInputs) rfl
  exact excV1_by (st := (topC 14)) (Y.glo _ (by decide +kernel)) rfl (by show 2 ≤ n + 2; omega) (Y.mkf ("BadInputs", ["inputs"]) (by decide +kernel)) F (fnSc_by (N := ["self", "inputs"]) (P := ["self", "inputs"]) (sc := defScope (topC 14)) (by decide +kernel)) rfl (FunD.bindsN F fun _ _ _ _ _ _ us hl => match us, hl with | [_, _], _ => rfl) (fun s u w => bind_by F (fun _ _ _ _ _ _ => rfl) s) (vis_by (by decide +kernel)) (vis_by (by decide +kernel))
theorem vx_BadStanding (Y : HdF w K mg) (n : Nat) : ExcV (Gm P w K mg base n) "BadStanding" ["standing"] := by
  obtain ⟨fd, F⟩ := Y.dfs.def_ 26 (d := dX_BadStanding) rfl
  exact excV1_by (st := (topC 15)) (Y.glo _ (by decide +kernel)) rfl (by show 2 ≤ n + 2; omega) (Y.mkf ("BadStanding", ["standing"]) (by decide +kernel)) F (fnSc_by (N := ["self", "standing"]) (P := ["self", "standing"]) (sc := defScope (topC 15)) (by decide +kernel)) rfl (FunD.bindsN F fun _ _ _ _ _ _ us hl => match us, hl with | [_, _], _ => rfl) (fun s u w => bind_by F (fun _ _ _ _ _ _ => rfl) s) (vis_by (by decide +kernel)) (vis_by (by decide +kernel))
theorem vx_BadChoice (Y : HdF w K mg) (n : Nat) : ExcV (Gm P w K mg base n) "BadChoice" ["choice"] := by
  obtain ⟨fd, F⟩ := Y.dfs.def_ 27 (d := dX_BadChoice) rfl
  exact excV1_by (st := (topC 16)) (Y.glo _ (by decide +kernel)) rfl (by show 2 ≤ n + 2; omega) (Y.mkf ("BadChoice", ["choice"]) (by decide +kernel)) F (fnSc_by (N := ["self", "choice"]) (P := ["self", "choice"]) (sc := defScope (topC 16)) (by decide +kernel)) rfl (FunD.bindsN F fun _ _ _ _ _ _ us hl => match us, hl with | [_, _], _ => rfl) (fun s u w => bind_by F (fun _ _ _ _ _ _ => rfl) s) (vis_by (by decide +kernel)) (vis_by (by decide +kernel))
theorem vx_BadChoices (Y : HdF w K mg) (n : Nat) : ExcV (Gm P w K mg base n) "BadChoices" ["index"] := by
  obtain ⟨fd, F⟩ := Y.dfs.def_ 28 (d := dX_BadChoices) rfl
  exact excV1_by (st := (topC 17)) (Y.glo _ (by decide +kernel)) rfl (by show 2 ≤ n + 2; omega) (Y.mkf ("BadChoices", ["index"]) (by decide +kernel)) F (fnSc_by (N := ["self", "index"]) (P := ["self", "index"]) (sc := defScope (topC 17)) (by decide +kernel)) rfl (FunD.bindsN F fun _ _ _ _ _ _ us hl => match us, hl with | [_, _], _ => rfl) (fun s u w => bind_by F (fun _ _ _ _ _ _ => rfl) s) (vis_by (by decide +kernel)) (vis_by (by decide +kernel))
theorem vx_BadMost (Y : HdF w K mg) (n : Nat) : ExcV (Gm P w K mg base n) "BadMost" ["most"] := by
  obtain ⟨fd, F⟩ := Y.dfs.def_ 29 (d := dX_BadMost) rfl
  exact excV1_by (st := (topC 18)) (Y.glo _ (by decide +kernel)) rfl (by show 2 ≤ n + 2; omega) (Y.mkf ("BadMost", ["most"]) (by decide +kernel)) F (fnSc_by (N := ["self", "most"]) (P := ["self", "most"]) (sc := defScope (topC 18)) (by decide +kernel)) rfl (FunD.bindsN F fun _ _ _ _ _ _ us hl => match us, hl with | [_, _], _ => rfl) (fun s u w => bind_by F (fun _ _ _ _ _ _ => rfl) s) (vis_by (by decide +kernel)) (vis_by (by decide +kernel))
theorem vx_BadArgs (Y : HdF w K mg) (n : Nat) : ExcV (Gm P w K mg base n) "BadArgs" ["given"] := by
  obtain ⟨fd, F⟩ := Y.dfs.def_ 30 (d := dX_BadArgs) rfl
  exact excV1_by (st := (topC 19)) (Y.glo _ (by decide +kernel)) rfl (by show 2 ≤ n + 2; omega) (Y.mkf ("BadArgs", ["given"]) (by decide +kernel)) F (fnSc_by (N := ["self", "given"]) (P := ["self", "given"]) (sc := defScope (topC 19)) (by decide +kernel)) rfl (FunD.bindsN F fun _ _ _ _ _ _ us hl => match us, hl with | [_, _], _ => rfl) (fun s u w => bind_by F (fun _ _ _ _ _ _ => rfl) s) (vis_by (by decide +kernel)) (vis_by (by decide +kernel))
theorem vx_BadAnswer (Y : HdF w K mg) (n : Nat) : ExcV (Gm P w K mg base n) "BadAnswer" ["answer"] := by
  obtain ⟨fd, F⟩ := Y.dfs.def_ 31 (d := dX_BadAnswer) rfl
  exact excV1_by (st := (topC 20)) (Y.glo _ (by decide +kernel)) rfl (by show 2 ≤ n + 2; omega) (Y.mkf ("BadAnswer", ["answer"]) (by decide +kernel)) F (fnSc_by (N := ["self", "answer"]) (P := ["self", "answer"]) (sc := defScope (topC 20)) (by decide +kernel)) rfl (FunD.bindsN F fun _ _ _ _ _ _ us hl => match us, hl with | [_, _], _ => rfl) (fun s u w => bind_by F (fun _ _ _ _ _ _ => rfl) s) (vis_by (by decide +kernel)) (vis_by (by decide +kernel))
theorem vx_BadPaperText (Y : HdF w K mg) (n : Nat) : ExcV (Gm P w K mg base n) "BadPaperText" ["line"] := by
  obtain ⟨fd, F⟩ := Y.dfs.def_ 32 (d := dX_BadPaperText) rfl
  exact excV1_by (st := (topC 21)) (Y.glo _ (by decide +kernel)) rfl (by show 2 ≤ n + 2; omega) (Y.mkf ("BadPaperText", ["line"]) (by decide +kernel)) F (fnSc_by (N := ["self", "line"]) (P := ["self", "line"]) (sc := defScope (topC 21)) (by decide +kernel)) rfl (FunD.bindsN F fun _ _ _ _ _ _ us hl => match us, hl with | [_, _], _ => rfl) (fun s u w => bind_by F (fun _ _ _ _ _ _ => rfl) s) (vis_by (by decide +kernel)) (vis_by (by decide +kernel))
theorem vx_BadTold (Y : HdF w K mg) (n : Nat) : ExcV (Gm P w K mg base n) "BadTold" ["told"] := by
  obtain ⟨fd, F⟩ := Y.dfs.def_ 33 (d := dX_BadTold) rfl
  exact excV1_by (st := (topC 22)) (Y.glo _ (by decide +kernel)) rfl (by show 2 ≤ n + 2; omega) (Y.mkf ("BadTold", ["told"]) (by decide +kernel)) F (fnSc_by (N := ["self", "told"]) (P := ["self", "told"]) (sc := defScope (topC 22)) (by decide +kernel)) rfl (FunD.bindsN F fun _ _ _ _ _ _ us hl => match us, hl with | [_, _], _ => rfl) (fun s u w => bind_by F (fun _ _ _ _ _ _ => rfl) s) (vis_by (by decide +kernel)) (vis_by (by decide +kernel))
theorem vx_BadOrder (Y : HdF w K mg) (n : Nat) : ExcV (Gm P w K mg base n) "BadOrder" ["index"] := by
  obtain ⟨fd, F⟩ := Y.dfs.def_ 34 (d := dX_BadOrder) rfl
  exact excV1_by (st := (topC 23)) (Y.glo _ (by decide +kernel)) rfl (by show 2 ≤ n + 2; omega) (Y.mkf ("BadOrder", ["index"]) (by decide +kernel)) F (fnSc_by (N := ["self", "index"]) (P := ["self", "index"]) (sc := defScope (topC 23)) (by decide +kernel)) rfl (FunD.bindsN F fun _ _ _ _ _ _ us hl => match us, hl with | [_, _], _ => rfl) (fun s u w => bind_by F (fun _ _ _ _ _ _ => rfl) s) (vis_by (by decide +kernel)) (vis_by (by decide +kernel))
theorem vx_BadPlace (Y : HdF w K mg) (n : Nat) : ExcV (Gm P w K mg base n) "BadPlace" ["place"] := by
  obtain ⟨fd, F⟩ := Y.dfs.def_ 35 (d := dX_BadPlace) rfl
  exact excV1_by (st := (topC 24)) (Y.glo _ (by decide +kernel)) rfl (by show 2 ≤ n + 2; omega) (Y.mkf ("BadPlace", ["place"]) (by decide +kernel)) F (fnSc_by (N := ["self", "place"]) (P := ["self", "place"]) (sc := defScope (topC 24)) (by decide +kernel)) rfl (FunD.bindsN F fun _ _ _ _ _ _ us hl => match us, hl with | [_, _], _ => rfl) (fun s u w => bind_by F (fun _ _ _ _ _ _ => rfl) s) (vis_by (by decide +kernel)) (vis_by (by decide +kernel))
theorem vx_BadSpot (Y : HdF w K mg) (n : Nat) : ExcV (Gm P w K mg base n) "BadSpot" ["part", "place"] := by
  obtain ⟨fd, F⟩ := Y.dfs.def_ 36 (d := dX_BadSpot) rfl
  exact excV2_by (st := (topC 25)) (Y.glo _ (by decide +kernel)) rfl (by show 2 ≤ n + 2; omega) (Y.mkf ("BadSpot", ["part", "place"]) (by decide +kernel)) F (fnSc_by (N := ["self", "part", "place"]) (P := ["self", "part", "place"]) (sc := defScope (topC 25)) (by decide +kernel)) rfl (FunD.bindsN F fun _ _ _ _ _ _ us hl => match us, hl with | [_, _, _], _ => rfl) (fun s u w1 w2 => bind_by F (fun _ _ _ _ _ _ => rfl) s) (vis_by (by decide +kernel)) (vis_by (by decide +kernel)) (vis_by (by decide +kernel))
theorem vx_BadLineNumber (Y : HdF w K mg) (n : Nat) : ExcV (Gm P w K mg base n) "BadLineNumber" ["line"] := by
  obtain ⟨fd, F⟩ := Y.dfs.def_ 37 (d := dX_BadLineNumber) rfl
  exact excV1_by (st := (topC 26)) (Y.glo _ (by decide +kernel)) rfl (by show 2 ≤ n + 2; omega) (Y.mkf ("BadLineNumber", ["line"]) (by decide +kernel)) F (fnSc_by (N := ["self", "line"]) (P := ["self", "line"]) (sc := defScope (topC 26)) (by decide +kernel)) rfl (FunD.bindsN F fun _ _ _ _ _ _ us hl => match us, hl with | [_, _], _ => rfl) (fun s u w => bind_by F (fun _ _ _ _ _ _ => rfl) s) (vis_by (by decide +kernel)) (vis_by (by decide +kernel))
theorem vx_BadRuns (Y : HdF w K mg) (n : Nat) : ExcV (Gm P w K mg base n) "BadRuns" ["index"] := by
  obtain ⟨fd, F⟩ := Y.dfs.def_ 38 (d := dX_BadRuns) rfl
  exact excV1_by (st := (topC 27)) (Y.glo _ (by decide +kernel)) rfl (by show 2 ≤ n + 2; omega) (Y.mkf ("BadRuns", ["index"]) (by decide +kernel)) F (fnSc_by (N := ["self", "index"]) (P := ["self", "index"]) (sc := defScope (topC 27)) (by decide +kernel)) rfl (FunD.bindsN F fun _ _ _ _ _ _ us hl => match us, hl with | [_, _], _ => rfl) (fun s u w => bind_by F (fun _ _ _ _ _ _ => rfl) s) (vis_by (by decide +kernel)) (vis_by (by decide +kernel))
theorem vx_Ended (Y : HdF w K mg) (n : Nat) : ExcV (Gm P w K mg base n) "Ended" ["outcome"] := by
  obtain ⟨fd, F⟩ := Y.dfs.def_ 39 (d := dX_Ended) rfl
  exact excV1_by (st := (topC 28)) (Y.glo _ (by decide +kernel)) rfl (by show 2 ≤ n + 2; omega) (Y.mkf ("Ended", ["outcome"]) (by decide +kernel)) F (fnSc_by (N := ["self", "outcome"]) (P := ["self", "outcome"]) (sc := defScope (topC 28)) (by decide +kernel)) rfl (FunD.bindsN F fun _ _ _ _ _ _ us hl => match us, hl with | [_, _], _ => rfl) (fun s u w => bind_by F (fun _ _ _ _ _ _ => rfl) s) (vis_by (by decide +kernel)) (vis_by (by decide +kernel))
theorem fx (Y : HdF w K mg) (n : Nat) : Fx (Gm P w K mg base n) where
  b_IndexError := Y.free _ (by decide +kernel)
  b_KeyError := Y.free _ (by decide +kernel)
  b_TypeError := Y.free _ (by decide +kernel)
  b_ValueError := Y.free _ (by decide +kernel)
  b_abs := Y.free _ (by decide +kernel)
  b_bool := Y.free _ (by decide +kernel)
  b_dict := Y.free _ (by decide +kernel)
  b_int := Y.free _ (by decide +kernel)
  b_isinstance := Y.free _ (by decide +kernel)
  b_len := Y.free _ (by decide +kernel)
  b_list := Y.free _ (by decide +kernel)
  b_max := Y.free _ (by decide +kernel)
  b_range := Y.free _ (by decide +kernel)
  b_str := Y.free _ (by decide +kernel)
  b_tuple := Y.free _ (by decide +kernel)
  m_BadAnswer := Y.glo _ (by decide +kernel)
  m_BadArgs := Y.glo _ (by decide +kernel)
  m_BadChoice := Y.glo _ (by decide +kernel)
  m_BadChoices := Y.glo _ (by decide +kernel)
  m_BadExpression := Y.glo _ (by decide +kernel)
  m_BadExpressionText := Y.glo _ (by decide +kernel)
  m_BadInputs := Y.glo _ (by decide +kernel)
  m_BadLine := Y.glo _ (by decide +kernel)
  m_BadLineNumber := Y.glo _ (by decide +kernel)
  m_BadMost := Y.glo _ (by decide +kernel)
  m_BadName := Y.glo _ (by decide +kernel)
  m_BadOrder := Y.glo _ (by decide +kernel)
  m_BadOther := Y.glo _ (by decide +kernel)
  m_BadPaperText := Y.glo _ (by decide +kernel)
  m_BadPlace := Y.glo _ (by decide +kernel)
  m_BadPoint := Y.glo _ (by decide +kernel)
  m_BadProcedure := Y.glo _ (by decide +kernel)
  m_BadProcs := Y.glo _ (by decide +kernel)
  m_BadProgram := Y.glo _ (by decide +kernel)
  m_BadProgramText := Y.glo _ (by decide +kernel)
  m_BadRuns := Y.glo _ (by decide +kernel)
  m_BadSpot := Y.glo _ (by decide +kernel)
  m_BadStanding := Y.glo _ (by decide +kernel)
  m_BadTold := Y.glo _ (by decide +kernel)
  m_BadValues := Y.glo _ (by decide +kernel)
  m_Ended := Y.glo _ (by decide +kernel)
  m_RunError := Y.glo _ (by decide +kernel)
  isF := isF_by (fun c m => rfl) (fun k m => Y.glo k (by revert k; decide +kernel)) (by decide +kernel) (by decide +kernel) Y.mro Y.exc
  v_BadAnswer := vx_BadAnswer Y n
  v_BadArgs := vx_BadArgs Y n
  v_BadChoice := vx_BadChoice Y n
  v_BadChoices := vx_BadChoices Y n
  v_BadExpression := vx_BadExpression Y n
  v_BadExpressionText := vx_BadExpressionText Y n
  v_BadInputs := vx_BadInputs Y n
  v_BadLine := vx_BadLine Y n
  v_BadLineNumber := vx_BadLineNumber Y n
  v_BadMost := vx_BadMost Y n
  v_BadName := vx_BadName Y n
  v_BadOrder := vx_BadOrder Y n
  v_BadPaperText := vx_BadPaperText Y n
  v_BadPlace := vx_BadPlace Y n
  v_BadPoint := vx_BadPoint Y n
  v_BadProcedure := vx_BadProcedure Y n
  v_BadProcs := vx_BadProcs Y n
  v_BadProgram := vx_BadProgram Y n
  v_BadProgramText := vx_BadProgramText Y n
  v_BadRuns := vx_BadRuns Y n
  v_BadSpot := vx_BadSpot Y n
  v_BadStanding := vx_BadStanding Y n
  v_BadTold := vx_BadTold Y n
  v_BadValues := vx_BadValues Y n
  v_Ended := vx_Ended Y n
  n_RunError := excN_by (Y.glo _ (by decide +kernel)) rfl (Y.bare _ (by decide +kernel))
  a_answer := xaF_by (mkl := mkl) (fun _ => rfl) Y.mkf (by decide +kernel)
  a_choice := xaF_by (mkl := mkl) (fun _ => rfl) Y.mkf (by decide +kernel)
  a_expression := xaF_by (mkl := mkl) (fun _ => rfl) Y.mkf (by decide +kernel)
  a_f := xaF_by (mkl := mkl) (fun _ => rfl) Y.mkf (by decide +kernel)
  a_given := xaF_by (mkl := mkl) (fun _ => rfl) Y.mkf (by decide +kernel)
  a_index := xaF_by (mkl := mkl) (fun _ => rfl) Y.mkf (by decide +kernel)
  a_inputs := xaF_by (mkl := mkl) (fun _ => rfl) Y.mkf (by decide +kernel)
  a_line := xaF_by (mkl := mkl) (fun _ => rfl) Y.mkf (by decide +kernel)
  a_most := xaF_by (mkl := mkl) (fun _ => rfl) Y.mkf (by decide +kernel)
  a_outcome := xaF_by (mkl := mkl) (fun _ => rfl) Y.mkf (by decide +kernel)
  a_part := xaF_by (mkl := mkl) (fun _ => rfl) Y.mkf (by decide +kernel)
  a_place := xaF_by (mkl := mkl) (fun _ => rfl) Y.mkf (by decide +kernel)
  a_point := xaF_by (mkl := mkl) (fun _ => rfl) Y.mkf (by decide +kernel)
  a_procedure := xaF_by (mkl := mkl) (fun _ => rfl) Y.mkf (by decide +kernel)
  a_program := xaF_by (mkl := mkl) (fun _ => rfl) Y.mkf (by decide +kernel)
  a_standing := xaF_by (mkl := mkl) (fun _ => rfl) Y.mkf (by decide +kernel)
  a_text := xaF_by (mkl := mkl) (fun _ => rfl) Y.mkf (by decide +kernel)
  a_told := xaF_by (mkl := mkl) (fun _ => rfl) Y.mkf (by decide +kernel)
theorem hot__law_kinds (Y : HdF w K mg) (n : Nat) : TLH.HotF (Gm P w K mg base n) "_law_kinds" "BadAnswer" [16] := by
  obtain ⟨fd, F⟩ := fd__law_kinds Y
  obtain ⟨fd0, F0⟩ := fd__law_kinds_first Y
  obtain ⟨fd1, F1⟩ := fd__law_kinds_last Y
  exact ⟨⟨He.ga K "_law_kinds", fd, He.ga K "BadAnswer", 2, kP__law_kinds (Γ := Gm P w K mg base n) (fun_ofD F) (fnSc_by (N := N__law_kinds) (P := ["e"]) (sc := defScope (top 35)) (by decide +kernel)) (kP__law_kinds_first (Γ := Gm P w K mg base n) (fx Y n) (fun_ofD F0) (fnSc_by (N := N__law_kinds_first) (P := ["e"]) (sc := defScope (top 33)) (by decide +kernel)) rfl) (kP__law_kinds_last (Γ := Gm P w K mg base n) (fx Y n) (fun_ofD F1) (fnSc_by (N := N__law_kinds_last) (P := ["e"]) (sc := defScope (top 34)) (by decide +kernel)) rfl) (Y.glo _ (by decide +kernel)) (Y.glo _ (by decide +kernel)) F0.kp F1.kp (FunD.bindsN F0 fun _ _ _ _ _ _ us hl => match us, hl with | [_], _ => rfl) (FunD.bindsN F1 fun _ _ _ _ _ _ us hl => match us, hl with | [_], _ => rfl), Y.glo _ (by decide +kernel), F.kp, (FunD.bindsN F fun _ _ _ _ _ _ us hl => match us, hl with | [_], _ => rfl), rfl, by show 2 ≤ n + 2; omega⟩⟩
structure AF (Γ : Cs) : Prop where
  _law_start : Fk Γ "_law_start" md__law_start
  _law_pick : Fk Γ "_law_pick" md__law_pick
  _law_between : Fk Γ "_law_between" md__law_between
  _law_kinds_first : Fk Γ "_law_kinds_first" md__law_kinds_first
  _law_kinds_last : Fk Γ "_law_kinds_last" md__law_kinds_last
  _law_kinds : Fk Γ "_law_kinds" md__law_kinds
  _law_form_made : Fk Γ "_law_form_made" md__law_form_made
  _law_text_made : Fk Γ "_law_text_made" md__law_text_made
  _law_other_made : Fk Γ "_law_other_made" md__law_other_made
  _law_made_at : Fk Γ "_law_made_at" md__law_made_at
  _law_object : Fk Γ "_law_object" md__law_object
  _law_very : Fk Γ "_law_very" md__law_very
  _law_caught : Fk Γ "_law_caught" md__law_caught
theorem z__law_start (Y : HdF w K mg) : Fk (Gm P w K mg base 0) "_law_start" md__law_start := by
  obtain ⟨fd, F⟩ := fd__law_start Y
  exact fk_zero (ps := ["script"]) rfl (Y.glo _ (by decide +kernel)) F.kp (FunD.bindsN F fun _ _ _ _ _ _ us hl => match us, hl with | [_], _ => rfl) rfl
theorem s__law_start (Y : HdF w K mg) (n : Nat) (A : AF (Gm P w K mg base n)) : Fk (Gm P w K mg base (n + 1)) "_law_start" md__law_start := by
  obtain ⟨fd, F⟩ := fd__law_start Y
  refine ⟨He.ga K "_law_start", fd, ["script"], ?_, Y.glo _ (by decide +kernel), F.kp, (FunD.bindsN F fun _ _ _ _ _ _ us hl => match us, hl with | [_], _ => rfl), rfl⟩
  show FnOk P w K mg base (L2.CX P w) (n + 1 + 2) _ fd _ (spF (gl K) md__law_start (callN (n + 1) "_law_start"))
  rw [c__law_start]
  exact fn_ok (Γ := { Gm P w K mg base n with N := N__law_start }) (fun_ofD F) (fnSc_by (N := N__law_start) (P := ["script"]) (sc := defScope (top 30)) (by decide +kernel)) rfl rfl (w__law_start (fx Y n) )
theorem z__law_pick (Y : HdF w K mg) : Fk (Gm P w K mg base 0) "_law_pick" md__law_pick := by
  obtain ⟨fd, F⟩ := fd__law_pick Y
  exact fk_zero (ps := ["state", "many"]) rfl (Y.glo _ (by decide +kernel)) F.kp (FunD.bindsN F fun _ _ _ _ _ _ us hl => match us, hl with | [_, _], _ => rfl) rfl
theorem s__law_pick (Y : HdF w K mg) (n : Nat) (A : AF (Gm P w K mg base n)) : Fk (Gm P w K mg base (n + 1)) "_law_pick" md__law_pick := by
  obtain ⟨fd, F⟩ := fd__law_pick Y
  refine ⟨He.ga K "_law_pick", fd, ["state", "many"], ?_, Y.glo _ (by decide +kernel), F.kp, (FunD.bindsN F fun _ _ _ _ _ _ us hl => match us, hl with | [_, _], _ => rfl), rfl⟩
  show FnOk P w K mg base (L2.CX P w) (n + 1 + 2) _ fd _ (spF (gl K) md__law_pick (callN (n + 1) "_law_pick"))
  rw [c__law_pick]
  exact fn_ok (Γ := { Gm P w K mg base n with N := N__law_pick }) (fun_ofD F) (fnSc_by (N := N__law_pick) (P := ["state", "many"]) (sc := defScope (top 31)) (by decide +kernel)) rfl rfl (w__law_pick (fx Y n) )
theorem z__law_between (Y : HdF w K mg) : Fk (Gm P w K mg base 0) "_law_between" md__law_between := by
  obtain ⟨fd, F⟩ := fd__law_between Y
  exact fk_zero (ps := ["state", "low", "high"]) rfl (Y.glo _ (by decide +kernel)) F.kp (FunD.bindsN F fun _ _ _ _ _ _ us hl => match us, hl with | [_, _, _], _ => rfl) rfl
theorem s__law_between (Y : HdF w K mg) (n : Nat) (A : AF (Gm P w K mg base n)) : Fk (Gm P w K mg base (n + 1)) "_law_between" md__law_between := by
  obtain ⟨fd, F⟩ := fd__law_between Y
  refine ⟨He.ga K "_law_between", fd, ["state", "low", "high"], ?_, Y.glo _ (by decide +kernel), F.kp, (FunD.bindsN F fun _ _ _ _ _ _ us hl => match us, hl with | [_, _, _], _ => rfl), rfl⟩
  show FnOk P w K mg base (L2.CX P w) (n + 1 + 2) _ fd _ (spF (gl K) md__law_between (callN (n + 1) "_law_between"))
  rw [c__law_between]
  exact fn_ok (Γ := { Gm P w K mg base n with N := N__law_between }) (fun_ofD F) (fnSc_by (N := N__law_between) (P := ["state", "low", "high"]) (sc := defScope (top 32)) (by decide +kernel)) rfl rfl (w__law_between (fx Y n) A._law_pick)
theorem z__law_kinds_first (Y : HdF w K mg) : Fk (Gm P w K mg base 0) "_law_kinds_first" md__law_kinds_first := by
  obtain ⟨fd, F⟩ := fd__law_kinds_first Y
  exact fk_zero (ps := ["e"]) rfl (Y.glo _ (by decide +kernel)) F.kp (FunD.bindsN F fun _ _ _ _ _ _ us hl => match us, hl with | [_], _ => rfl) rfl
theorem s__law_kinds_first (Y : HdF w K mg) (n : Nat) (A : AF (Gm P w K mg base n)) : Fk (Gm P w K mg base (n + 1)) "_law_kinds_first" md__law_kinds_first := by
  obtain ⟨fd, F⟩ := fd__law_kinds_first Y
  refine ⟨He.ga K "_law_kinds_first", fd, ["e"], ?_, Y.glo _ (by decide +kernel), F.kp, (FunD.bindsN F fun _ _ _ _ _ _ us hl => match us, hl with | [_], _ => rfl), rfl⟩
  show FnOk P w K mg base (L2.CX P w) (n + 1 + 2) _ fd _ (spF (gl K) md__law_kinds_first (callN (n + 1) "_law_kinds_first"))
  rw [c__law_kinds_first]
  exact fn_ok (Γ := { Gm P w K mg base n with N := N__law_kinds_first }) (fun_ofD F) (fnSc_by (N := N__law_kinds_first) (P := ["e"]) (sc := defScope (top 33)) (by decide +kernel)) rfl rfl (w__law_kinds_first (fx Y n) )
theorem z__law_kinds_last (Y : HdF w K mg) : Fk (Gm P w K mg base 0) "_law_kinds_last" md__law_kinds_last := by
  obtain ⟨fd, F⟩ := fd__law_kinds_last Y
  exact fk_zero (ps := ["e"]) rfl (Y.glo _ (by decide +kernel)) F.kp (FunD.bindsN F fun _ _ _ _ _ _ us hl => match us, hl with | [_], _ => rfl) rfl
theorem s__law_kinds_last (Y : HdF w K mg) (n : Nat) (A : AF (Gm P w K mg base n)) : Fk (Gm P w K mg base (n + 1)) "_law_kinds_last" md__law_kinds_last := by
  obtain ⟨fd, F⟩ := fd__law_kinds_last Y
  refine ⟨He.ga K "_law_kinds_last", fd, ["e"], ?_, Y.glo _ (by decide +kernel), F.kp, (FunD.bindsN F fun _ _ _ _ _ _ us hl => match us, hl with | [_], _ => rfl), rfl⟩
  show FnOk P w K mg base (L2.CX P w) (n + 1 + 2) _ fd _ (spF (gl K) md__law_kinds_last (callN (n + 1) "_law_kinds_last"))
  rw [c__law_kinds_last]
  exact fn_ok (Γ := { Gm P w K mg base n with N := N__law_kinds_last }) (fun_ofD F) (fnSc_by (N := N__law_kinds_last) (P := ["e"]) (sc := defScope (top 34)) (by decide +kernel)) rfl rfl (w__law_kinds_last (fx Y n) )
theorem z__law_kinds (Y : HdF w K mg) : Fk (Gm P w K mg base 0) "_law_kinds" md__law_kinds := by
  obtain ⟨fd, F⟩ := fd__law_kinds Y
  exact fk_zero (ps := ["e"]) rfl (Y.glo _ (by decide +kernel)) F.kp (FunD.bindsN F fun _ _ _ _ _ _ us hl => match us, hl with | [_], _ => rfl) rfl
theorem s__law_kinds (Y : HdF w K mg) (n : Nat) (A : AF (Gm P w K mg base n)) : Fk (Gm P w K mg base (n + 1)) "_law_kinds" md__law_kinds := by
  obtain ⟨fd, F⟩ := fd__law_kinds Y
  refine ⟨He.ga K "_law_kinds", fd, ["e"], ?_, Y.glo _ (by decide +kernel), F.kp, (FunD.bindsN F fun _ _ _ _ _ _ us hl => match us, hl with | [_], _ => rfl), rfl⟩
  show FnOk P w K mg base (L2.CX P w) (n + 1 + 2) _ fd _ (spF (gl K) md__law_kinds (callN (n + 1) "_law_kinds"))
  rw [c__law_kinds]
  exact fn_ok (Γ := { Gm P w K mg base n with N := N__law_kinds }) (fun_ofD F) (fnSc_by (N := N__law_kinds) (P := ["e"]) (sc := defScope (top 35)) (by decide +kernel)) rfl rfl (w__law_kinds (fx Y n) A._law_kinds_first A._law_kinds_last)
theorem z__law_form_made (Y : HdF w K mg) : Fk (Gm P w K mg base 0) "_law_form_made" md__law_form_made := by
  obtain ⟨fd, F⟩ := fd__law_form_made Y
  exact fk_zero (ps := ["at", "x"]) rfl (Y.glo _ (by decide +kernel)) F.kp (FunD.bindsN F fun _ _ _ _ _ _ us hl => match us, hl with | [_, _], _ => rfl) rfl
theorem s__law_form_made (Y : HdF w K mg) (n : Nat) (A : AF (Gm P w K mg base n)) : Fk (Gm P w K mg base (n + 1)) "_law_form_made" md__law_form_made := by
  obtain ⟨fd, F⟩ := fd__law_form_made Y
  refine ⟨He.ga K "_law_form_made", fd, ["at", "x"], ?_, Y.glo _ (by decide +kernel), F.kp, (FunD.bindsN F fun _ _ _ _ _ _ us hl => match us, hl with | [_, _], _ => rfl), rfl⟩
  show FnOk P w K mg base (L2.CX P w) (n + 1 + 2) _ fd _ (spF (gl K) md__law_form_made (callN (n + 1) "_law_form_made"))
  rw [c__law_form_made]
  exact fn_ok (Γ := { Gm P w K mg base n with N := N__law_form_made }) (fun_ofD F) (fnSc_by (N := N__law_form_made) (P := ["at", "x"]) (sc := defScope (top 36)) (by decide +kernel)) rfl rfl (w__law_form_made (fx Y n) )
theorem z__law_text_made (Y : HdF w K mg) : Fk (Gm P w K mg base 0) "_law_text_made" md__law_text_made := by
  obtain ⟨fd, F⟩ := fd__law_text_made Y
  exact fk_zero (ps := ["at", "x"]) rfl (Y.glo _ (by decide +kernel)) F.kp (FunD.bindsN F fun _ _ _ _ _ _ us hl => match us, hl with | [_, _], _ => rfl) rfl
theorem s__law_text_made (Y : HdF w K mg) (n : Nat) (A : AF (Gm P w K mg base n)) : Fk (Gm P w K mg base (n + 1)) "_law_text_made" md__law_text_made := by
  obtain ⟨fd, F⟩ := fd__law_text_made Y
  refine ⟨He.ga K "_law_text_made", fd, ["at", "x"], ?_, Y.glo _ (by decide +kernel), F.kp, (FunD.bindsN F fun _ _ _ _ _ _ us hl => match us, hl with | [_, _], _ => rfl), rfl⟩
  show FnOk P w K mg base (L2.CX P w) (n + 1 + 2) _ fd _ (spF (gl K) md__law_text_made (callN (n + 1) "_law_text_made"))
  rw [c__law_text_made]
  exact fn_ok (Γ := { Gm P w K mg base n with N := N__law_text_made }) (fun_ofD F) (fnSc_by (N := N__law_text_made) (P := ["at", "x"]) (sc := defScope (top 37)) (by decide +kernel)) rfl rfl (w__law_text_made (fx Y n) )
theorem z__law_other_made (Y : HdF w K mg) : Fk (Gm P w K mg base 0) "_law_other_made" md__law_other_made := by
  obtain ⟨fd, F⟩ := fd__law_other_made Y
  exact fk_zero (ps := ["at", "x"]) rfl (Y.glo _ (by decide +kernel)) F.kp (FunD.bindsN F fun _ _ _ _ _ _ us hl => match us, hl with | [_, _], _ => rfl) rfl
theorem s__law_other_made (Y : HdF w K mg) (n : Nat) (A : AF (Gm P w K mg base n)) : Fk (Gm P w K mg base (n + 1)) "_law_other_made" md__law_other_made := by
  obtain ⟨fd, F⟩ := fd__law_other_made Y
  refine ⟨He.ga K "_law_other_made", fd, ["at", "x"], ?_, Y.glo _ (by decide +kernel), F.kp, (FunD.bindsN F fun _ _ _ _ _ _ us hl => match us, hl with | [_, _], _ => rfl), rfl⟩
  show FnOk P w K mg base (L2.CX P w) (n + 1 + 2) _ fd _ (spF (gl K) md__law_other_made (callN (n + 1) "_law_other_made"))
  rw [c__law_other_made]
  exact fn_ok (Γ := { Gm P w K mg base n with N := N__law_other_made }) (fun_ofD F) (fnSc_by (N := N__law_other_made) (P := ["at", "x"]) (sc := defScope (top 38)) (by decide +kernel)) rfl rfl (w__law_other_made (fx Y n) )
theorem z__law_made_at (Y : HdF w K mg) : Fk (Gm P w K mg base 0) "_law_made_at" md__law_made_at := by
  obtain ⟨fd, F⟩ := fd__law_made_at Y
  exact fk_zero (ps := ["at", "x"]) rfl (Y.glo _ (by decide +kernel)) F.kp (FunD.bindsN F fun _ _ _ _ _ _ us hl => match us, hl with | [_, _], _ => rfl) rfl
theorem s__law_made_at (Y : HdF w K mg) (n : Nat) (A : AF (Gm P w K mg base n)) : Fk (Gm P w K mg base (n + 1)) "_law_made_at" md__law_made_at := by
  obtain ⟨fd, F⟩ := fd__law_made_at Y
  refine ⟨He.ga K "_law_made_at", fd, ["at", "x"], ?_, Y.glo _ (by decide +kernel), F.kp, (FunD.bindsN F fun _ _ _ _ _ _ us hl => match us, hl with | [_, _], _ => rfl), rfl⟩
  show FnOk P w K mg base (L2.CX P w) (n + 1 + 2) _ fd _ (spF (gl K) md__law_made_at (callN (n + 1) "_law_made_at"))
  rw [c__law_made_at]
  exact fn_ok (Γ := { Gm P w K mg base n with N := N__law_made_at }) (fun_ofD F) (fnSc_by (N := N__law_made_at) (P := ["at", "x"]) (sc := defScope (top 39)) (by decide +kernel)) rfl rfl (w__law_made_at (fx Y n) A._law_form_made A._law_other_made A._law_text_made)
theorem z__law_object (Y : HdF w K mg) : Fk (Gm P w K mg base 0) "_law_object" md__law_object := by
  obtain ⟨fd, F⟩ := fd__law_object Y
  exact fk_zero (ps := ["state"]) rfl (Y.glo _ (by decide +kernel)) F.kp (FunD.bindsN F fun _ _ _ _ _ _ us hl => match us, hl with | [_], _ => rfl) rfl
theorem s__law_object (Y : HdF w K mg) (n : Nat) (A : AF (Gm P w K mg base n)) : Fk (Gm P w K mg base (n + 1)) "_law_object" md__law_object := by
  obtain ⟨fd, F⟩ := fd__law_object Y
  refine ⟨He.ga K "_law_object", fd, ["state"], ?_, Y.glo _ (by decide +kernel), F.kp, (FunD.bindsN F fun _ _ _ _ _ _ us hl => match us, hl with | [_], _ => rfl), rfl⟩
  show FnOk P w K mg base (L2.CX P w) (n + 1 + 2) _ fd _ (spF (gl K) md__law_object (callN (n + 1) "_law_object"))
  rw [c__law_object]
  exact fn_ok (Γ := { Gm P w K mg base n with N := N__law_object }) (fun_ofD F) (fnSc_by (N := N__law_object) (P := ["state"]) (sc := defScope (top 40)) (by decide +kernel)) rfl rfl (w__law_object (fx Y n) A._law_between A._law_pick)
theorem z__law_very (Y : HdF w K mg) : Fk (Gm P w K mg base 0) "_law_very" md__law_very := by
  obtain ⟨fd, F⟩ := fd__law_very Y
  exact fk_zero (ps := ["found", "due"]) rfl (Y.glo _ (by decide +kernel)) F.kp (FunD.bindsN F fun _ _ _ _ _ _ us hl => match us, hl with | [_, _], _ => rfl) rfl
theorem s__law_very (Y : HdF w K mg) (n : Nat) (A : AF (Gm P w K mg base n)) : Fk (Gm P w K mg base (n + 1)) "_law_very" md__law_very := by
  obtain ⟨fd, F⟩ := fd__law_very Y
  refine ⟨He.ga K "_law_very", fd, ["found", "due"], ?_, Y.glo _ (by decide +kernel), F.kp, (FunD.bindsN F fun _ _ _ _ _ _ us hl => match us, hl with | [_, _], _ => rfl), rfl⟩
  show FnOk P w K mg base (L2.CX P w) (n + 1 + 2) _ fd _ (spF (gl K) md__law_very (callN (n + 1) "_law_very"))
  rw [c__law_very]
  exact fn_ok (Γ := { Gm P w K mg base n with N := N__law_very }) (fun_ofD F) (fnSc_by (N := N__law_very) (P := ["found", "due"]) (sc := defScope (top 41)) (by decide +kernel)) rfl rfl (w__law_very (fx Y n) )
theorem z__law_caught (Y : HdF w K mg) : Fk (Gm P w K mg base 0) "_law_caught" md__law_caught := by
  obtain ⟨fd, F⟩ := fd__law_caught Y
  exact fk_zero (ps := ["x"]) rfl (Y.glo _ (by decide +kernel)) F.kp (FunD.bindsN F fun _ _ _ _ _ _ us hl => match us, hl with | [_], _ => rfl) rfl
theorem s__law_caught (Y : HdF w K mg) (n : Nat) (A : AF (Gm P w K mg base n)) : Fk (Gm P w K mg base (n + 1)) "_law_caught" md__law_caught := by
  obtain ⟨fd, F⟩ := fd__law_caught Y
  refine ⟨He.ga K "_law_caught", fd, ["x"], ?_, Y.glo _ (by decide +kernel), F.kp, (FunD.bindsN F fun _ _ _ _ _ _ us hl => match us, hl with | [_], _ => rfl), rfl⟩
  show FnOk P w K mg base (L2.CX P w) (n + 1 + 2) _ fd _ (spF (gl K) md__law_caught (callN (n + 1) "_law_caught"))
  rw [c__law_caught]
  exact TLH.fn_okT (Γ := { Gm P w K mg base n with N := N__law_caught }) (fun_ofD F) (fnSc_by (N := N__law_caught) (P := ["x"]) (sc := defScope (top 42)) (by decide +kernel)) rfl rfl (w__law_caught (fx Y n) A._law_kinds (hot__law_kinds Y n) ⟨_, _, rfl, Y.glo _ (by decide +kernel), TLH.exmB_ok Y.exm⟩)
theorem af (Y : HdF w K mg) : ∀ n, AF (Gm P w K mg base n)
  | 0 => ⟨z__law_start Y, z__law_pick Y, z__law_between Y, z__law_kinds_first Y, z__law_kinds_last Y, z__law_kinds Y, z__law_form_made Y, z__law_text_made Y, z__law_other_made Y, z__law_made_at Y, z__law_object Y, z__law_very Y, z__law_caught Y⟩
  | n + 1 => ⟨s__law_start Y n (af Y n), s__law_pick Y n (af Y n), s__law_between Y n (af Y n), s__law_kinds_first Y n (af Y n), s__law_kinds_last Y n (af Y n), s__law_kinds Y n (af Y n), s__law_form_made Y n (af Y n), s__law_text_made Y n (af Y n), s__law_other_made Y n (af Y n), s__law_made_at Y n (af Y n), s__law_object Y n (af Y n), s__law_very Y n (af Y n), s__law_caught Y n (af Y n)⟩
abbrev NN : Nat := 14
theorem law_ok (Y : HdF w K mg) {fd : FuncData} (F : FunD K "law" "law" (defArgs (top 43)) (defBody (top 43)) (defScope (top 43)) [] [] (He.ga K "law") fd) : FnOk P w K mg base (L2.CX P w) (NN + 3) (He.ga K "law") fd ["script"] (spF (gl K) [false] (runF 10 [] (m_law (callN NN)))) :=
  fn_ok (Γ := { Gm P w K mg base NN with N := N_law }) (fun_ofD F) (fnSc_by (N := N_law) (P := ["script"]) (sc := defScope (top 43)) (by decide +kernel)) rfl rfl (w_law (fx Y NN) (af Y NN)._law_caught (af Y NN)._law_kinds (af Y NN)._law_made_at (af Y NN)._law_object (af Y NN)._law_pick (af Y NN)._law_start (af Y NN)._law_very)
end
end LK
end

-- text S1
section
set_option Elab.async false
set_option linter.all false
set_option maxRecDepth 100000
set_option maxHeartbeats 4000000
namespace LK
open PySem PySem.Spec PyProof.Rows L2 TL
/-! ### rules of computation -/
section
variable {α β : Type} {e env : En} {d : D}
@[simp] theorem ok_bind (a : α) (e : En) (k : α → En → Rs β) : (Rs.ok a e).bind k = k a e := rfl
@[simp] theorem exc_bind (c : Str) (fs) (e : En) (k : α → En → Rs β) : (Rs.exc c fs e : Rs α).bind k = .exc c fs e := rfl
@[simp] theorem ok_s (a : α) (e : En) (k : α → En → RS) : (Rs.ok a e).s k = k a e := rfl
@[simp] theorem exc_s (c : Str) (fs) (e : En) (k : α → En → RS) : (Rs.exc c fs e : Rs α).s k = .exc c fs e := rfl
@[simp] theorem e_rC (d : D) (e : En) : rC d e = some d := rfl
@[simp] theorem e_rN (i : Nat) (e : En) : rN i e = (e[i]?).join := rfl
end
theorem map_inj {α β : Type} {f : α → β} (hf : ∀ x y, f x = f y → x = y) : ∀ xs ys : List α, xs.map f = ys.map f → xs = ys
  | [], [], _ => rfl
  | [], y :: ys, h => by simp at h
  | x :: xs, [], h => by simp at h
  | x :: xs, y :: ys, h => by
    simp at h
    rw [hf x y h.1, map_inj hf xs ys h.2]
@[simp] theorem ofString_inj {a b : String} : Str.ofString a = Str.ofString b ↔ a = b := by
  constructor
  · intro h
    rw [Str.ofString_eq_toList, Str.ofString_eq_toList] at h
    have h2 : a.toList.map Char.toNat = b.toList.map Char.toNat := by simpa using h
    have h3 : a.toList = b.toList := map_inj (fun x y h => Char.toNat_inj.1 h) _ _ h2
    exact String.toList_inj.1 h3
  · rintro rfl; rfl
@[simp] theorem it_lst (o : Bool) (xs : List D) (i : Int) : itD (.lst o xs) (.int i) = atI xs i := rfl
@[simp] theorem it_tup (xs : List D) (i : Int) : itD (.tup xs) (.int i) = atI xs i := rfl
@[simp] theorem at_0 (x : D) (t : List D) : atI (x :: t) 0 = some x := by simp [atI, ixN]
theorem at_n (xs : List D) (n : Nat) (h : n < xs.length) : atI xs (n : Int) = xs[n]? := by
  have h1 : (n : Int) < xs.length := by omega
  simp [atI, ixN, h1]
@[simp] theorem at_1 (x y : D) (t : List D) : atI (x :: y :: t) 1 = some y := by
  rw [show (1 : Int) = ((1 : Nat) : Int) from rfl, at_n _ _ (by simp)]; rfl
@[simp] theorem at_2 (x y z : D) (t : List D) : atI (x :: y :: z :: t) 2 = some z := by
  rw [show (2 : Int) = ((2 : Nat) : Int) from rfl, at_n _ _ (by simp)]; rfl
@[simp] theorem at_3 (x y z w : D) (t : List D) : atI (x :: y :: z :: w :: t) 3 = some w := by
  rw [show (3 : Int) = ((3 : Nat) : Int) from rfl, at_n _ _ (by simp)]; rfl
@[simp] theorem at_4 (x y z w v : D) (t : List D) : atI (x :: y :: z :: w :: v :: t) 4 = some v := by
  rw [show (4 : Int) = ((4 : Nat) : Int) from rfl, at_n _ _ (by simp)]; rfl
@[simp] theorem eqD_str (a b : Str) : eqD (.str a) (.str b) = some (.bl (decide (a = b))) := by simp [eqD, eqB, isAt, vOf, scal]
@[simp] theorem eqD_int (a b : Int) : eqD (.int a) (.int b) = some (.bl (decide (a = b))) := by simp [eqD, eqB, isAt, vOf, scal]
@[simp] theorem neD_int (a b : Int) : neD (.int a) (.int b) = some (.bl (!decide (a = b))) := by simp [neD, eqB, isAt, vOf, scal]
@[simp] theorem addA_int (a b : Int) : addA (.int a) (.int b) = some (.int (a + b)) := rfl
@[simp] theorem subD_int (a b : Int) : subD (.int a) (.int b) = some (.int (a - b)) := rfl
@[simp] theorem ltD_int (a b : Int) : ltD (.int a) (.int b) = some (.bl (decide (a < b))) := rfl
@[simp] theorem gtD_int (a b : Int) : gtD (.int a) (.int b) = some (.bl (decide (b < a))) := rfl
@[simp] theorem geD_int (a b : Int) : geD (.int a) (.int b) = some (.bl (decide (b ≤ a))) := rfl
@[simp] theorem intD_int (a : Int) : TL.intD (D.int a) = some (D.int a) := rfl
@[simp] theorem absD_int (a : Int) : absD (.int a) = some (.int (if a < 0 then -a else a)) := rfl
theorem mulD_of {a b : Int} (h : -1000000000000 < b ∧ b < 1000000000000) : mulD (.int a) (.int b) = some (.int (a * b)) := by
  have e : (2 : Int) ^ 64 = 18446744073709551616 := by decide
  have : ((decide (-(2 ^ 64) < a) && decide (a < 2 ^ 64)) || (decide (-(2 ^ 64) < b) && decide (b < 2 ^ 64))) = true := by
    rw [e]; simp; omega
  show (if _ then _ else _) = _
  rw [if_pos this]
theorem mulD_ofL {a b : Int} (h : -1000000000000 < a ∧ a < 1000000000000) : mulD (.int a) (.int b) = some (.int (a * b)) := by
  have e : (2 : Int) ^ 64 = 18446744073709551616 := by decide
  have : ((decide (-(2 ^ 64) < a) && decide (a < 2 ^ 64)) || (decide (-(2 ^ 64) < b) && decide (b < 2 ^ 64))) = true := by
    rw [e]; simp; omega
  show (if _ then _ else _) = _
  rw [if_pos this]
theorem modD_of {a b : Int} (h : 0 < b) : modD (.int a) (.int b) = some (.int (a % b)) := by
  show (if _ then _ else _) = _
  rw [if_pos (decide_eq_true h)]
theorem divD_of {a b : Int} (h : 0 < b) (h2 : b < 1073741824) : divD (.int a) (.int b) = some (.int (a / b)) := by
  show (if _ then _ else _) = _
  rw [if_pos (show (decide (0 < b) && decide (b < 1073741824)) = true by rw [decide_eq_true h, decide_eq_true h2]; rfl)]
theorem powD_of {a : Int} {n : Nat} (hn : n ≤ 100) (h : -1000000000000000 < a ∧ a < 1000000000000000) : powD (.int a) (.int n) = some (.int (a ^ n)) := by
  have e : (2 : Nat) ^ 64 = 18446744073709551616 := by decide
  show (if _ then _ else _) = _
  rw [if_pos (by rw [e]; simp; omega)]
  simp
/-! ### the state of the draws -/
def cellsD (cs : List Int) : D := .lst true (cs.map D.int)
def stD (cs : List Int) (a b c : Int) : D := .lst true [cellsD cs, .int a, .int b, .int c]
structure Okst (d : D) (n : Nat) : Prop where
  ex : ∃ cs a b c, d = stD cs a b c ∧ cs.length ≤ 63 ∧ 0 ≤ a ∧ 0 ≤ b ∧ b ≤ n ∧ 0 ≤ c ∧ c < 2147483647
theorem toPyL_int (cs : List Int) : toPyL (cs.map D.int) = some (cs.map PyData.int) := by
  induction cs with
  | nil => rfl
  | cons c cs ih => simp [toPyL, toPy, ih]
theorem canLay_int (cs : List Int) : PyData.canLayAll0 (cs.map PyData.int) = true := by
  induction cs with
  | nil => rfl
  | cons c cs ih => simp [PyData.canLayAll0, PyData.canLay0, ih]
theorem depth_int (cs : List Int) : PyData.depthAll (cs.map PyData.int) ≤ 1 := by
  induction cs with
  | nil => simp [PyData.depthAll]
  | cons c cs ih => simp [PyData.depthAll, PyData.depth]; omega
theorem ne_cells (cs : List Int) : neD (cellsD cs) (.lst true []) = some (.bl (!decide (cs = []))) := by
  have hd := depth_int cs
  have h1 : SeqAt.shaped (.list (cs.map PyData.int)) = true := by
    simp [SeqAt.shaped, PyData.canLay0, canLay_int, PyData.depth]; omega
  have h2 : SeqAt.shaped (.list []) = true := by decide
  simp only [neD, eqB, cellsD, isAt, Bool.false_and, Bool.false_eq_true, if_false, eqN, toPy, toPyL_int, toPyL, Option.map_some, h1, h2, Bool.and_self, if_true]
  cases cs <;> simp [PyData.eqv, PyData.eqvAll]
end LK
end

-- text S2
section
set_option Elab.async false
set_option linter.all false
set_option maxRecDepth 100000
set_option maxHeartbeats 4000000
namespace LK
open PySem PySem.Spec PyProof.Rows L2 TL
def envP (cs : List Int) (a b c m : Int) (x2 x3 x4 : Option D) : En := [some (stD cs a b c), some (.int m), x2, x3, x4]
def tstP : M Bool := (mAndT (mRT eqD (rBin itD (rN 0) (rC (.int 1))) (rC (.int 0))) (mTru (mBin neD (mR (rBin itD (rN 0) (rC (.int 0)))) (mLst mNil))))
def bodP : MS := (sSeq (sSet 3 (mV1 absD (mPopIn 0 0 0)))
  (sSeq (sSto 0 (mCp (rBin modD (rUn intD (rBin addA (rBin addA (rBin mulD (rBin itD (rN 0) (rC (.int 3))) (rC (.int 6151))) (rN 3)) (rC (.int 5)))) (rC (.int 2147483647)))) (mCp (rC (.int 3))))
  (sSto 0 (mIf (mRT geD (rN 3) (rBin powD (rC (.int 10)) (rC (.int 18)))) (mGet 3) (mCp (rC (.int 0)))) (mCp (rC (.int 1))))))
theorem tst_P (cs : List Int) (a b c m : Int) (x2 x3 x4 : Option D) : tstP (envP cs a b c m x2 x3 x4) = .ok (decide (a = 0) && !decide (cs = [])) (envP cs a b c m x2 x3 x4) := by
  by_cases h : a = 0
  · simp [tstP, envP, stD, mAndT, mRT, rBin, h, mTru, mBin, mR, mLst, mNil, ne_cells, truD]
  · simp [tstP, envP, stD, mAndT, mRT, rBin, h, truD]
theorem pow18 : powD (.int 10) (.int 18) = some (.int 1000000000000000000) := by
  have := powD_of (a := 10) (n := 18) (by omega) (by omega)
  simpa using this
@[simp] theorem ix4_0 : ixN 4 0 = some 0 := by decide
@[simp] theorem ix4_1 : ixN 4 1 = some 1 := by decide
@[simp] theorem ix4_2 : ixN 4 2 = some 2 := by decide
@[simp] theorem ix4_3 : ixN 4 3 = some 3 := by decide
theorem bod_P (v : Int) (cs : List Int) (a b c m : Int) (x2 x3 x4 : Option D) : bodP (envP (v :: cs) a b c m x2 x3 x4) =
    .nx (envP cs (if 1000000000000000000 ≤ (if v < 0 then -v else v) then (if v < 0 then -v else v) else 0) b ((c * 6151 + (if v < 0 then -v else v) + 5) % 2147483647) m x2 (some (.int (if v < 0 then -v else v))) x4) := by
  have hm : mulD (.int c) (.int 6151) = some (.int (c * 6151)) := mulD_of (by omega)
  have hd : ∀ z : Int, modD (.int z) (.int 2147483647) = some (.int (z % 2147483647)) := fun z => modD_of (by omega)
  generalize hw : (if v < 0 then -v else v) = w
  have h1 : (0 : Nat) < 2 ^ 62 := by decide
  by_cases h : 1000000000000000000 ≤ w
  · simp [bodP, envP, stD, cellsD, sSeq, sSet, mV1, mPopIn, h1, setE, sSto, mCp, rBin, rUn, hm, hd, isFrz, stoK, mIf, mRT, pow18, truD, hw, h, mGet, frz]
  · simp [bodP, envP, stD, cellsD, sSeq, sSet, mV1, mPopIn, h1, setE, sSto, mCp, rBin, rUn, hm, hd, isFrz, stoK, mIf, mRT, pow18, truD, hw, h, mGet, frz]
theorem loop_P (b m : Int) (x2 x4 : Option D) : ∀ (cs : List Int) (a c : Int) (x3 : Option D) (n : Nat), cs.length < n → 0 ≤ a → 0 ≤ c → c < 2147483647 →
    ∃ cs' a' c' x3', loopW tstP bodP n (envP cs a b c m x2 x3 x4) = .nx (envP cs' a' b c' m x2 x3' x4) ∧ cs'.length ≤ cs.length ∧ 0 ≤ a' ∧ 0 ≤ c' ∧ c' < 2147483647
  | [], a, c, x3, 0, hn, _, _, _ => by omega
  | [], a, c, x3, n + 1, hn, ha, hc, hc2 => ⟨[], a, c, x3, by simp [loopW, tst_P], by simp, ha, hc, hc2⟩
  | v :: cs, a, c, x3, 0, hn, _, _, _ => by simp at hn
  | v :: cs, a, c, x3, n + 1, hn, ha, hc, hc2 => by
    by_cases h : a = 0
    · have hv : 0 ≤ (if v < 0 then -v else v) := by split <;> omega
      generalize hw : (if v < 0 then -v else v) = w at hv
      have ha' : 0 ≤ (if 1000000000000000000 ≤ w then w else 0) := by split <;> omega
      obtain ⟨cs', a', c', x3', h1, h2, h3, h4, h5⟩ := loop_P b m x2 x4 cs (if 1000000000000000000 ≤ w then w else 0) ((c * 6151 + w + 5) % 2147483647) (some (.int w)) n (by simp at hn; omega) ha' (by omega) (by omega)
      refine ⟨cs', a', c', x3', ?_, by simp; omega, h3, h4, h5⟩
      simp [loopW, tst_P, h, bod_P, hw, RS.turn, h1]
    · exact ⟨v :: cs, a, c, x3, by simp [loopW, tst_P, h], Nat.le_refl _, ha, hc, hc2⟩
theorem s_pick {k n : Nat} {d : D} {m : Int} (h : Okst d n) (hn : n < 1000000) (hm : 0 < m) (hm2 : m < 1073741824) : ∃ d' r, callN (k + 1) "_law_pick" [d, .int m] = .ok (.int r) [d'] ∧ 0 ≤ r ∧ r < m ∧ Okst d' (n + 1) := by
  obtain ⟨cs, a, b, c, rfl, h1, h2, h3, h4, h5, h6⟩ := h.ex
  have hf : cs.length < fuel0 := by unfold fuel0; omega
  obtain ⟨cs', a', c', x3', e1, e2, e3, e4, e5⟩ := loop_P (b + 1) m none none cs a c none fuel0 hf h2 h5 h6
  have step1 : (sSto 0 (mCp (rBin addA (rBin itD (rN 0) (rC (.int 2))) (rC (.int 1)))) (mCp (rC (.int 2)))) [some (stD cs a b c), some (.int m), none, none, none] = .nx (envP cs a (b + 1) c m none none none) := by
    simp [sSto, mCp, rBin, stD, isFrz, stoK, envP]
  rw [c__law_pick]
  by_cases h0 : 0 < a'
  · refine ⟨stD cs' (a' / m) (b + 1) c', a' % m, ?_, Int.emod_nonneg _ (by omega), Int.emod_lt_of_pos _ hm, ⟨cs', a' / m, b + 1, c', rfl, by omega, Int.ediv_nonneg (by omega) (by omega), by omega, by omega, e4, e5⟩⟩
    have hd1 : modD (.int a') (.int m) = some (.int (a' % m)) := modD_of hm
    have hd2 : divD (.int a') (.int m) = some (.int (a' / m)) := divD_of hm hm2
    have e1' := e1
    unfold tstP bodP at e1'
    simp [runF, m__law_pick, sSeq, step1, e1']
    simp [envP, stD, sIf, sSeq, mRT, rBin, truD, h0, sSet, mCp, rUn, hd1, isFrz, setE, sSto, stoK, hd2, sRet, mMov, RS.cr, outs]
  · have h00 : a' = 0 := by omega
    subst h00
    have hd3 : mulD (.int 7907) (.int (b + 1)) = some (.int (7907 * (b + 1))) := mulD_ofL (by omega)
    have hb : 0 ≤ c' + 7907 * (b + 1) + 104723 ∧ c' + 7907 * (b + 1) + 104723 < 1000000000000000 := by omega
    have hd4 : powD (.int (c' + 7907 * (b + 1) + 104723)) (.int 5) = some (.int ((c' + 7907 * (b + 1) + 104723) ^ 5)) := powD_of (n := 5) (by omega) (by omega)
    have hd5 : ∀ z : Int, modD (.int z) (.int 2147483629) = some (.int (z % 2147483629)) := fun z => modD_of (by omega)
    generalize hx : (c' + 7907 * (b + 1) + 104723) ^ 5 = x at hd4
    have hx1 : 0 ≤ x % 2147483629 ∧ x % 2147483629 < 2147483629 := by omega
    have hd6 : mulD (.int (x % 2147483629)) (.int 48271) = some (.int (x % 2147483629 * 48271)) := mulD_of (by omega)
    have hd7 : mulD (.int 30011) (.int (b + 1)) = some (.int (30011 * (b + 1))) := mulD_ofL (by omega)
    have hd8 : powD (.int (x % 2147483629 * 48271 + 30011 * (b + 1) + 31)) (.int 3) = some (.int ((x % 2147483629 * 48271 + 30011 * (b + 1) + 31) ^ 3)) := powD_of (n := 3) (by omega) (by omega)
    have hd9 : ∀ z : Int, modD (.int z) (.int 1000000007) = some (.int (z % 1000000007)) := fun z => modD_of (by omega)
    have hd10 : ∀ z : Int, modD (.int z) (.int m) = some (.int (z % m)) := fun z => modD_of hm
    refine ⟨stD cs' 0 (b + 1) c', (x % 2147483629 * 48271 + 30011 * (b + 1) + 31) ^ 3 % 1000000007 % m, ?_, Int.emod_nonneg _ (by omega), Int.emod_lt_of_pos _ hm, ⟨cs', 0, b + 1, c', rfl, by omega, Int.le_refl _, by omega, by omega, e4, e5⟩⟩
    have e1' := e1
    unfold tstP bodP at e1'
    simp [runF, m__law_pick, sSeq, step1, e1']
    simp [envP, stD, sIf, mRT, rBin, truD, sSet, mCp, rUn, isFrz, setE, sSto, stoK, sRet, mMov, RS.cr, outs, sPass, hd3, hd4, hd5, hd6, hd7, hd8, hd9, hd10]
end LK
end

-- text S4
section
set_option Elab.async false
set_option linter.all false
set_option maxRecDepth 100000
set_option maxHeartbeats 4000000
namespace LK
open PySem PySem.Spec PyProof.Rows L2 TL
@[simp] theorem addC_int (a b : Int) : addC (.int a) (.int b) = some (.int (a + b)) := rfl
theorem s_start (k : Nat) (ns : List Int) (h : ns.length ≤ 63) : ∃ d, callN (k + 1) "_law_start" [.lst false (ns.map .int)] = .ok d [] ∧ Okst d 0 := by
  have hf : frzL (ns.map D.int) = ns.map D.int := by
    rw [frzL_map, List.map_map]
    exact List.map_congr_left fun q _ => rfl
  refine ⟨stD ns 0 0 29, ?_, ⟨ns, 0, 0, 29, rfl, h, by omega, by omega, by omega, by omega, by omega⟩⟩
  rw [c__law_start]
  simp [sizeLine_eq, runF, m__law_start, sRet, mLst, mCons, mB, mGet, frz, hf, mNil, fList, mCp, isFrz, RS.cr, outs, stD, cellsD]
theorem s_between {k n : Nat} {d : D} {lo hi : Int} (h : Okst d n) (hn : n < 1000000) (hl : lo ≤ hi) (hh : hi - lo < 1000000) : ∃ d' r, callN (k + 2) "_law_between" [d, .int lo, .int hi] = .ok (.int r) [d'] ∧ lo ≤ r ∧ r ≤ hi ∧ Okst d' (n + 1) := by
  have em : (if 0 > hi - lo then (0 : Int) else hi - lo) = hi - lo := if_neg (by omega)
  obtain ⟨d', r, h1, h2, h3, h4⟩ := s_pick (k := k) (m := hi - lo + 1) h hn (by omega) (by omega)
  refine ⟨d', lo + r, ?_, by omega, by omega, h4⟩
  rw [c__law_between]
  simp [runF, m__law_between, sRet, mBin, mGet, frz, mCall, mCons, mMov, mB, mCp, rBin, isFrz, mNil, fMax2, em, h1, CR.back, putB, RS.cr, outs]
theorem w_str : ∀ r : Fin 99, (match strD (.int (r.1 : Int)) with
    | some (.str s) => (match addC (.str "w") (.str s) with
      | some (.str t) => true
      | _ => false)
    | _ => false) = true := by decide +kernel
theorem w_str' {r : Int} (h0 : 0 ≤ r) (h1 : r < 99) : ∃ s t, strD (.int r) = some (.str s) ∧ addC (.str "w") (.str s) = some (.str t) := by
  have := w_str ⟨r.toNat, by omega⟩
  simp only [Int.toNat_of_nonneg h0] at this
  split at this
  · rename_i s e
    split at this
    · rename_i t e2
      exact ⟨s, t, e, e2⟩
    · cases this
  · cases this
/-- the drawn objects -/
inductive Ob : D → Prop
  | int (i : Int) : Ob (.int i)
  | str (s : Str) : Ob (.str s)
  | non : Ob .non
  | bl (b : Bool) : Ob (.bl b)
  | tup (r : Int) : Ob (.tup [.int 1, .int r])
  | lst (r : Int) : Ob (.lst true [.int r, .lst true [.int 1]])
  | dct (r : Int) : Ob (.dct true [(.inr "a", .int r)])
theorem Okst.up {d : D} {n m : Nat} (h : Okst d n) (l : n ≤ m) : Okst d m := by
  obtain ⟨cs, a, b, c, x1, x2, x3, x4, x5, x6, x7⟩ := h.ex
  exact ⟨cs, a, b, c, x1, x2, x3, x4, by omega, x6, x7⟩
theorem s_object {k n : Nat} {d : D} (h : Okst d n) (hn : n < 900000) : ∃ d' o, callN (k + 3) "_law_object" [d] = .ok o [d'] ∧ Ob o ∧ Okst d' (n + 3) := by
  obtain ⟨d1, r1, e1, a1, b1, k1⟩ := s_pick (k := k + 1) (m := 7) h (by omega) (by omega) (by omega)
  have neg : negD (.int 9) = some (.int (-9)) := rfl
  rw [c__law_object]
  have hd : r1 = 0 ∨ r1 = 1 ∨ r1 = 2 ∨ r1 = 3 ∨ r1 = 4 ∨ r1 = 5 ∨ r1 = 6 := by omega
  have head : ∀ rest : MS, sSeq (sSet 1 (mCall (callN (k + 2) "_law_pick") [true, false] [some 0, none] (mCons (mMov 0) (mCons (mCp (rC (.int 7))) mNil)))) rest [some d, none] = rest [some d1, some (.int r1)] := fun rest => by
    simp [sSeq, sSet, mCall, mCons, mMov, mCp, isFrz, mNil, e1, CR.back, putB, setE]
  show ∃ d' o, (m__law_object (callN (k + 2)) [some d, none]).cr [0] = .ok o [d'] ∧ Ob o ∧ Okst d' (n + 3)
  unfold m__law_object
  rw [head]
  by_cases c1 : r1 < 2
  · obtain ⟨d2, r2, e2, _, _, k2⟩ := s_between (k := k) (lo := -9) (hi := 9) k1 (by omega) (by omega) (by omega)
    obtain ⟨d3, r3, e3, a3, b3, k3⟩ := s_pick (k := k + 1) (m := 99) k2 (by omega) (by omega) (by omega)
    obtain ⟨s, t, w1, w2⟩ := w_str' a3 b3
    have hh : r1 = 0 ∨ r1 = 1 := by omega
    rcases hh with rfl | rfl
    · exact ⟨d3, .int r2, by simp [sizeLine_eq, sSeq, sIf, mRT, rBin, truD, sRet, mSub, mLst, mCons, mCall, mMov, mCp, rUn, neg, isFrz, mNil, e2, CR.back, putB, mBin, mV1, e3, w1, w2, mGet, frz, frzL, RS.cr, outs], .int r2, k3⟩
    · exact ⟨d3, .str t, by simp [sizeLine_eq, sSeq, sIf, mRT, rBin, truD, sRet, mSub, mLst, mCons, mCall, mMov, mCp, rUn, neg, isFrz, mNil, e2, CR.back, putB, mBin, mV1, e3, w1, w2, mGet, frz, frzL, RS.cr, outs], .str t, k3⟩
  · by_cases c2 : r1 < 5
    · obtain ⟨d2, r2, e2, a2, b2, k2⟩ := s_pick (k := k + 1) (m := 2) k1 (by omega) (by omega) (by omega)
      obtain ⟨d3, r3, e3, a3, b3, k3⟩ := s_pick (k := k + 1) (m := 9) k2 (by omega) (by omega) (by omega)
      have hh : r1 = 2 ∨ r1 = 3 ∨ r1 = 4 := by omega
      rcases hh with rfl | rfl | rfl
      · exact ⟨d3, .non, by simp [sizeLine_eq, sSeq, sIf, mRT, rBin, truD, sPass, sRet, mSub, mLst, mCons, mCall, mMov, mCp, isFrz, isFrzL, mNil, e2, e3, CR.back, putB, mBin, mR, mTup, frz, frzL, RS.cr, outs], .non, k3⟩
      · exact ⟨d3, .bl (decide (r2 = 0)), by simp [sizeLine_eq, sSeq, sIf, mRT, rBin, truD, sPass, sRet, mSub, mLst, mCons, mCall, mMov, mCp, isFrz, isFrzL, mNil, e2, e3, CR.back, putB, mBin, mR, mTup, frz, frzL, RS.cr, outs], .bl _, k3⟩
      · exact ⟨d3, .tup [.int 1, .int r3], by simp [sizeLine_eq, sSeq, sIf, mRT, rBin, truD, sPass, sRet, mSub, mLst, mCons, mCall, mMov, mCp, isFrz, isFrzL, mNil, e2, e3, CR.back, putB, mBin, mR, mTup, frz, frzL, RS.cr, outs], .tup r3, k3⟩
    · obtain ⟨d2, r2, e2, a2, b2, k2⟩ := s_pick (k := k + 1) (m := 9) k1 (by omega) (by omega) (by omega)
      have hh : r1 = 5 ∨ r1 = 6 := by omega
      rcases hh with rfl | rfl
      · exact ⟨d2, _, by (try simp [sizeLine_eq, sSeq, sIf, mRT, rBin, truD, sPass, sRet, mIf, mLst, mCons, mCall, mMov, mCp, isFrz, mNil, e2, CR.back, putB, RS.cr, outs]) <;> rfl, .lst r2, k2.up (by omega)⟩
      · exact ⟨d2, _, by (try simp [sizeLine_eq, sSeq, sIf, mRT, rBin, truD, sPass, sRet, mIf, mDct, mPs, mCons, mCall, mMov, mCp, isFrz, isFrzL, mNil, e2, CR.back, putB, RS.cr, outs, keyOf, mergeD, putD]) <;> rfl, .dct r2, k2.up (by omega)⟩
end LK
end

-- text S5
section
set_option Elab.async false
set_option linter.all false
set_option maxRecDepth 100000
set_option maxHeartbeats 4000000
namespace LK
open PySem PySem.Spec PyProof.Rows L2 TL
theorem eq_lst (r : Int) : eqD (.lst true [.int r, .lst true [.int 1]]) (.lst true [.int r, .lst true [.int 1]]) = some (.bl true) := by
  have h1 : SeqAt.shaped (.list [.int r, .list [.int 1]]) = true := by simp [SeqAt.shaped, PyData.canLay0, PyData.canLayAll0, PyData.depth, PyData.depthAll]
  simp [eqD, eqB, isAt, eqN, toPy, toPyL, h1, PyData.eqv, PyData.eqvAll]
theorem eq_ints (r : Int) : eqD (.lst true [.int 1, .int r]) (.lst true [.int 1, .int r]) = some (.bl true) := by
  have h1 : SeqAt.shaped (.list [.int 1, .int r]) = true := by simp [SeqAt.shaped, PyData.canLay0, PyData.canLayAll0, PyData.depth, PyData.depthAll]
  simp [eqD, eqB, isAt, eqN, toPy, toPyL, h1, PyData.eqv, PyData.eqvAll]
theorem eq_dct (r : Int) : eqK (.dct true [(.inr "a", .int r)]) (.dct true [(.inr "a", .int r)]) = some (.bl true) := by
  have hl : List.lookup (.inr "a" : Key) [((.inr "a" : Key), D.int r)] = some (.int r) := by kernel_rfl
  simp [eqK, hl, isAt]
theorem s_very {k : Nat} {v : V} {o : D} (h : Ob o) : callN (k + 1) "_law_very" [.hole v, .al v o] = .ok (.bl true) [.al v o] := by
  rw [c__law_very]
  cases h with
  | int i => simp [runF, m__law_very, sSeq, sIf, mTru, mR, rUn, rA, isiD, tyD, isi1, truD, sPass, sRet, rH, isAt, RS.cr, outs, mRT, rBin, isND, noneD, mCp, isFrz, mAnd, mNot, eqD, eqB, vOf, scal]
  | str i => simp [runF, m__law_very, sSeq, sIf, mTru, mR, rUn, rA, isiD, tyD, isi1, truD, sPass, sRet, rH, isAt, RS.cr, outs, mRT, rBin, isND, noneD, mCp, isFrz, mAnd, mNot, eqD, eqB, vOf, scal]
  | non => simp [runF, m__law_very, sSeq, sIf, mTru, mR, rUn, rA, isiD, tyD, isi1, truD, sPass, sRet, rH, isAt, RS.cr, outs, mRT, rBin, isND, noneD, mCp, isFrz, mAnd, mNot, eqD, eqB, vOf, scal]
  | bl b => simp [runF, m__law_very, sSeq, sIf, mTru, mR, rUn, rA, isiD, tyD, isi1, truD, sPass, sRet, rH, isAt, RS.cr, outs, mRT, rBin, isND, noneD, mCp, isFrz, mAnd, mNot, eqD, eqB, vOf, scal]
  | tup r => simp [runF, m__law_very, sSeq, sIf, mTru, mR, rUn, rA, isiD, tyD, isi1, truD, sPass, sRet, rH, isAt, RS.cr, outs, mRT, rBin, isND, noneD, mCp, isFrz, mAnd, mNot, vOf, scal, mBin, mB, mCons, mNil, fList, isFrzL, frz, frzL, eq_ints]
  | lst r =>
    have neg : negD (.int 1) = some (.int (-1)) := rfl
    have last : itD (.lst true [.int r, .lst true [.int 1], .str "more"]) (.int (-1)) = some (.str "more") := rfl
    simp [runF, m__law_very, sSeq, sIf, mTru, mR, rUn, rA, isiD, tyD, isi1, truD, sPass, sRet, rH, isAt, RS.cr, outs, frz, frzL, sAl, sDo, mChg, mCp, isFrz, kApp, sizeLine_eq, alBack, sSet, mAnd, rBin, lenD2, lenD, neg, last, setE, mPop0, mGet, eq_lst]
  | dct r =>
    have hin : inD (.str "more") (.dct true [(.inr "a", .int r), (.inr "more", .int 1)]) = some (.bl true) := by kernel_rfl
    have hput : putD [((.inr "a" : Key), D.int r)] (.inr "more") (.int 1) = [(.inr "a", .int r), (.inr "more", .int 1)] := by kernel_rfl
    have hlk : List.lookup (.inr "more" : Key) [((.inr "a" : Key), D.int r), (.inr "more", .int 1)] = some (.int 1) := by kernel_rfl
    have hdr : dropD [((.inr "a" : Key), D.int r), (.inr "more", .int 1)] (.inr "more") = [(.inr "a", .int r)] := by kernel_rfl
    simp [runF, m__law_very, sSeq, sIf, mTru, mR, rUn, rA, isiD, tyD, isi1, truD, sPass, sRet, rH, isAt, RS.cr, outs, frz, frzK, sAl, sDo, sSto, mCp, isFrz, stoK, keyOf, sizeLine_eq, alBack, sSet, mAnd, rBin, lenD2, hin, hput, hlk, hdr, setE, mDPop, mGet, eq_dct]
end LK
end

-- text S6
section
set_option Elab.async false
set_option linter.all false
set_option maxRecDepth 100000
set_option maxHeartbeats 4000000
namespace LK
open PySem PySem.Spec PyProof.Rows L2 TL
noncomputable def lA1 (C : Orc) : MS := (sUnp [5, 7] (mCall (C "_law_made_at") [false, false] [none, none] (mCons (mGet 6) (mCons (mAl 3) mNil))))
noncomputable def lA2 (C : Orc) : MS := (sUnp [8, 9] (mCall (C "_law_made_at") [false, false] [none, none] (mCons (mGet 6) (mCons (mAl 4) mNil))))
noncomputable def lC1 (C : Orc) : MS := (sIf (mOrT (mNotT (mTru (mR (rUn (isXD excls ["RunError"] isTab) (rN 5))))) (mOrT (mNotT (mTru (mR (rUn (isXD excls ["ValueError"] isTab) (rN 5))))) (mTru (mBin neD (mCall (C "_law_kinds") [false] [none] (mCons (mGet 5) mNil)) (mLst (mCons (mGet 6) mNil)))))) (sRet (mCp (rC (.bl false)))) sPass)
noncomputable def lC2 (C : Orc) : MS := (sIf (mOrT (mTru (mUn (isXD excls ["KeyError", "IndexError", "TypeError", "BadOther", "BadSpot"] isTab) (rN 5))) (mTru (mUn (isXD excls ["KeyError", "TypeError"] isTab) (rN 8)))) (sRet (mCp (rC (.bl false)))) sPass)
noncomputable def lC3 (C : Orc) : MS := (sIf (mOrT (mNotT (mTru (mCall (C "_law_very") [false, true] [none, some 3] (mCons (mGet 7) (mCons (mMov 3) mNil))))) (mNotT (mTru (mCall (C "_law_very") [false, true] [none, some 4] (mCons (mGet 9) (mCons (mMov 4) mNil)))))) (sRet (mCp (rC (.bl false)))) sPass)
noncomputable def lS0 (C : Orc) : MS := (sSet 6 (mIf (mRT ltD (rN 2) (rC (.int 24))) (mBin modD (mV1 intD (mBin addC (mGet 2) (mCall (C "_law_pick") [true, false] [some 1, none] (mCons (mMov 1) (mCons (mCp (rC (.int 24))) mNil))))) (mCp (rC (.int 24)))) (mCp (rBin subD (rN 2) (rC (.int 24))))))
noncomputable def lP0 (C : Orc) : MS := (sPar 3 4 (mCons (mCall (C "_law_object") [true] [some 1] (mCons (mMov 1) mNil)) (mCons (mCall (C "_law_object") [true] [some 1] (mCons (mMov 1) mNil)) mNil)))
noncomputable def lB1 (C : Orc) : MS := (sIf (mOrT (mNotT (mTru (mR (rUn (isXD excls ["RunError"] isTab) (rN 5))))) (mOrT (mTru (mBin neD (mCall (C "_law_kinds") [false] [none] (mCons (mGet 5) mNil)) (mLst mNil))) (mOrT (mNotT (mTru (mCall (C "_law_very") [false, true] [none, some 3] (mCons (mCp (rXat fld_part "part" (rN 5))) (mCons (mMov 3) mNil))))) (mNotT (mTru (mCall (C "_law_very") [false, true] [none, some 4] (mCons (mCp (rXat fld_place "place" (rN 5))) (mCons (mMov 4) mNil)))))))) (sRet (mCp (rC (.bl false)))) sPass)
noncomputable def lR1 (C : Orc) : MS := (sRet (mBin eqD (mCall (C "_law_caught") [false] [none] (mCons (mCall (C "_law_object") [true] [some 1] (mCons (mMov 1) mNil)) mNil)) (mTup (mCons (mLst (mCons (mCp (rC (.int 16))) mNil)) (mCons (mLst mNil) (mCons (mCp (rC (.bl true))) mNil))))))
noncomputable def lF1 (C : Orc) : MS := sFor (mItems (mTup (mCons (mExn "BadSpot" ["part", "place"] (mCons (mAl 3) (mCons (mAl 4) mNil))) (mCons (mExnK "BadSpot" ["part", "place"] [1, 0] (mCons (mAl 4) (mCons (mAl 3) mNil))) mNil)))) (tgN 5) (lB1 C)
noncomputable def lP (C : Orc) : MS := sSeq (lA1 C) (sSeq (lA2 C) (sSeq (lC1 C) (lC2 C)))
noncomputable def lIn (C : Orc) : MS := sSeq (lS0 C) (sSeq (lP0 C) (sLab 3 (sForgetR [3, 4, 5, 7, 8, 9] (sLab 4 (sForgetR [4, 5, 8, 9] (sSeq (lA1 C) (sSeq (lA2 C) (sSeq (lC1 C) (sSeq (lC2 C) (lC3 C))))))))))
noncomputable def lEnd (C : Orc) : MS := sSeq (lP0 C) (sLab 3 (sForgetR [3, 4, 5, 7, 8, 9] (sLab 4 (sForgetR [4, 5, 8, 9] (sSeq (lF1 C) (lR1 C))))))
theorem law_parts (C : Orc) : m_law C = (sSeq (sSet 1 (mCall (C "_law_start") [false] [none] (mCons (mGet 0) mNil))) (sSeq (sFor (mIt rng1 (mCons (mCp (rC (.int 48))) mNil)) (tgN 2) (lIn C)) (lEnd C))) := rfl
def eL (scr : Option D) (d : D) (k s3 s4 s5 a6 s7 s8 s9 : Option D) : En := [scr, some d, k, s3, s4, s5, a6, s7, s8, s9]
theorem a_0 (scr k : Option D) (d o u : D) (v w : V) : lP (callN 14) (eL scr d k (some (.al v o)) (some (.al w u)) none (some (.int 0)) none none none) = .nx (eL scr d k (some (.al v o)) (some (.al w u)) (some (.exn "BadExpression" [("expression", .hole v)])) (some (.int 0)) (some (.hole v)) (some (.exn "BadExpression" [("expression", .hole w)])) (some (.hole w))) := by kernel_rfl
theorem a_1 (scr k : Option D) (d o u : D) (v w : V) : lP (callN 14) (eL scr d k (some (.al v o)) (some (.al w u)) none (some (.int 1)) none none none) = .nx (eL scr d k (some (.al v o)) (some (.al w u)) (some (.exn "BadValues" [("given", .hole v)])) (some (.int 1)) (some (.hole v)) (some (.exn "BadValues" [("given", .hole w)])) (some (.hole w))) := by kernel_rfl
theorem a_2 (scr k : Option D) (d o u : D) (v w : V) : lP (callN 14) (eL scr d k (some (.al v o)) (some (.al w u)) none (some (.int 2)) none none none) = .nx (eL scr d k (some (.al v o)) (some (.al w u)) (some (.exn "BadProcs" [("index", .hole v)])) (some (.int 2)) (some (.hole v)) (some (.exn "BadProcs" [("index", .hole w)])) (some (.hole w))) := by kernel_rfl
theorem a_3 (scr k : Option D) (d o u : D) (v w : V) : lP (callN 14) (eL scr d k (some (.al v o)) (some (.al w u)) none (some (.int 3)) none none none) = .nx (eL scr d k (some (.al v o)) (some (.al w u)) (some (.exn "BadName" [("f", .hole v)])) (some (.int 3)) (some (.hole v)) (some (.exn "BadName" [("f", .hole w)])) (some (.hole w))) := by kernel_rfl
theorem a_4 (scr k : Option D) (d o u : D) (v w : V) : lP (callN 14) (eL scr d k (some (.al v o)) (some (.al w u)) none (some (.int 4)) none none none) = .nx (eL scr d k (some (.al v o)) (some (.al w u)) (some (.exn "BadProcedure" [("procedure", .hole v)])) (some (.int 4)) (some (.hole v)) (some (.exn "BadProcedure" [("procedure", .hole w)])) (some (.hole w))) := by kernel_rfl
theorem a_5 (scr k : Option D) (d o u : D) (v w : V) : lP (callN 14) (eL scr d k (some (.al v o)) (some (.al w u)) none (some (.int 5)) none none none) = .nx (eL scr d k (some (.al v o)) (some (.al w u)) (some (.exn "BadProgram" [("program", .hole v)])) (some (.int 5)) (some (.hole v)) (some (.exn "BadProgram" [("program", .hole w)])) (some (.hole w))) := by kernel_rfl
theorem a_6 (scr k : Option D) (d o u : D) (v w : V) : lP (callN 14) (eL scr d k (some (.al v o)) (some (.al w u)) none (some (.int 6)) none none none) = .nx (eL scr d k (some (.al v o)) (some (.al w u)) (some (.exn "BadExpressionText" [("text", .hole v)])) (some (.int 6)) (some (.hole v)) (some (.exn "BadExpressionText" [("text", .hole w)])) (some (.hole w))) := by kernel_rfl
theorem a_7 (scr k : Option D) (d o u : D) (v w : V) : lP (callN 14) (eL scr d k (some (.al v o)) (some (.al w u)) none (some (.int 7)) none none none) = .nx (eL scr d k (some (.al v o)) (some (.al w u)) (some (.exn "BadProgramText" [("line", .hole v)])) (some (.int 7)) (some (.hole v)) (some (.exn "BadProgramText" [("line", .hole w)])) (some (.hole w))) := by kernel_rfl
theorem a_8 (scr k : Option D) (d o u : D) (v w : V) : lP (callN 14) (eL scr d k (some (.al v o)) (some (.al w u)) none (some (.int 8)) none none none) = .nx (eL scr d k (some (.al v o)) (some (.al w u)) (some (.exn "BadLine" [("line", .hole v)])) (some (.int 8)) (some (.hole v)) (some (.exn "BadLine" [("line", .hole w)])) (some (.hole w))) := by kernel_rfl
theorem a_9 (scr k : Option D) (d o u : D) (v w : V) : lP (callN 14) (eL scr d k (some (.al v o)) (some (.al w u)) none (some (.int 9)) none none none) = .nx (eL scr d k (some (.al v o)) (some (.al w u)) (some (.exn "BadPoint" [("point", .hole v)])) (some (.int 9)) (some (.hole v)) (some (.exn "BadPoint" [("point", .hole w)])) (some (.hole w))) := by kernel_rfl
theorem a_10 (scr k : Option D) (d o u : D) (v w : V) : lP (callN 14) (eL scr d k (some (.al v o)) (some (.al w u)) none (some (.int 10)) none none none) = .nx (eL scr d k (some (.al v o)) (some (.al w u)) (some (.exn "BadInputs" [("inputs", .hole v)])) (some (.int 10)) (some (.hole v)) (some (.exn "BadInputs" [("inputs", .hole w)])) (some (.hole w))) := by kernel_rfl
theorem a_11 (scr k : Option D) (d o u : D) (v w : V) : lP (callN 14) (eL scr d k (some (.al v o)) (some (.al w u)) none (some (.int 11)) none none none) = .nx (eL scr d k (some (.al v o)) (some (.al w u)) (some (.exn "BadStanding" [("standing", .hole v)])) (some (.int 11)) (some (.hole v)) (some (.exn "BadStanding" [("standing", .hole w)])) (some (.hole w))) := by kernel_rfl
theorem a_12 (scr k : Option D) (d o u : D) (v w : V) : lP (callN 14) (eL scr d k (some (.al v o)) (some (.al w u)) none (some (.int 12)) none none none) = .nx (eL scr d k (some (.al v o)) (some (.al w u)) (some (.exn "BadChoice" [("choice", .hole v)])) (some (.int 12)) (some (.hole v)) (some (.exn "BadChoice" [("choice", .hole w)])) (some (.hole w))) := by kernel_rfl
theorem a_13 (scr k : Option D) (d o u : D) (v w : V) : lP (callN 14) (eL scr d k (some (.al v o)) (some (.al w u)) none (some (.int 13)) none none none) = .nx (eL scr d k (some (.al v o)) (some (.al w u)) (some (.exn "BadChoices" [("index", .hole v)])) (some (.int 13)) (some (.hole v)) (some (.exn "BadChoices" [("index", .hole w)])) (some (.hole w))) := by kernel_rfl
theorem a_14 (scr k : Option D) (d o u : D) (v w : V) : lP (callN 14) (eL scr d k (some (.al v o)) (some (.al w u)) none (some (.int 14)) none none none) = .nx (eL scr d k (some (.al v o)) (some (.al w u)) (some (.exn "BadMost" [("most", .hole v)])) (some (.int 14)) (some (.hole v)) (some (.exn "BadMost" [("most", .hole w)])) (some (.hole w))) := by kernel_rfl
theorem a_15 (scr k : Option D) (d o u : D) (v w : V) : lP (callN 14) (eL scr d k (some (.al v o)) (some (.al w u)) none (some (.int 15)) none none none) = .nx (eL scr d k (some (.al v o)) (some (.al w u)) (some (.exn "BadArgs" [("given", .hole v)])) (some (.int 15)) (some (.hole v)) (some (.exn "BadArgs" [("given", .hole w)])) (some (.hole w))) := by kernel_rfl
theorem a_16 (scr k : Option D) (d o u : D) (v w : V) : lP (callN 14) (eL scr d k (some (.al v o)) (some (.al w u)) none (some (.int 16)) none none none) = .nx (eL scr d k (some (.al v o)) (some (.al w u)) (some (.exn "BadAnswer" [("answer", .hole v)])) (some (.int 16)) (some (.hole v)) (some (.exn "BadAnswer" [("answer", .hole w)])) (some (.hole w))) := by kernel_rfl
theorem a_17 (scr k : Option D) (d o u : D) (v w : V) : lP (callN 14) (eL scr d k (some (.al v o)) (some (.al w u)) none (some (.int 17)) none none none) = .nx (eL scr d k (some (.al v o)) (some (.al w u)) (some (.exn "BadPaperText" [("line", .hole v)])) (some (.int 17)) (some (.hole v)) (some (.exn "BadPaperText" [("line", .hole w)])) (some (.hole w))) := by kernel_rfl
theorem a_18 (scr k : Option D) (d o u : D) (v w : V) : lP (callN 14) (eL scr d k (some (.al v o)) (some (.al w u)) none (some (.int 18)) none none none) = .nx (eL scr d k (some (.al v o)) (some (.al w u)) (some (.exn "BadTold" [("told", .hole v)])) (some (.int 18)) (some (.hole v)) (some (.exn "BadTold" [("told", .hole w)])) (some (.hole w))) := by kernel_rfl
theorem a_19 (scr k : Option D) (d o u : D) (v w : V) : lP (callN 14) (eL scr d k (some (.al v o)) (some (.al w u)) none (some (.int 19)) none none none) = .nx (eL scr d k (some (.al v o)) (some (.al w u)) (some (.exn "BadOrder" [("index", .hole v)])) (some (.int 19)) (some (.hole v)) (some (.exn "BadOrder" [("index", .hole w)])) (some (.hole w))) := by kernel_rfl
theorem a_20 (scr k : Option D) (d o u : D) (v w : V) : lP (callN 14) (eL scr d k (some (.al v o)) (some (.al w u)) none (some (.int 20)) none none none) = .nx (eL scr d k (some (.al v o)) (some (.al w u)) (some (.exn "BadPlace" [("place", .hole v)])) (some (.int 20)) (some (.hole v)) (some (.exn "BadPlace" [("place", .hole w)])) (some (.hole w))) := by kernel_rfl
theorem a_21 (scr k : Option D) (d o u : D) (v w : V) : lP (callN 14) (eL scr d k (some (.al v o)) (some (.al w u)) none (some (.int 21)) none none none) = .nx (eL scr d k (some (.al v o)) (some (.al w u)) (some (.exn "BadLineNumber" [("line", .hole v)])) (some (.int 21)) (some (.hole v)) (some (.exn "BadLineNumber" [("line", .hole w)])) (some (.hole w))) := by kernel_rfl
theorem a_22 (scr k : Option D) (d o u : D) (v w : V) : lP (callN 14) (eL scr d k (some (.al v o)) (some (.al w u)) none (some (.int 22)) none none none) = .nx (eL scr d k (some (.al v o)) (some (.al w u)) (some (.exn "BadRuns" [("index", .hole v)])) (some (.int 22)) (some (.hole v)) (some (.exn "BadRuns" [("index", .hole w)])) (some (.hole w))) := by kernel_rfl
theorem a_23 (scr k : Option D) (d o u : D) (v w : V) : lP (callN 14) (eL scr d k (some (.al v o)) (some (.al w u)) none (some (.int 23)) none none none) = .nx (eL scr d k (some (.al v o)) (some (.al w u)) (some (.exn "Ended" [("outcome", .hole v)])) (some (.int 23)) (some (.hole v)) (some (.exn "Ended" [("outcome", .hole w)])) (some (.hole w))) := by kernel_rfl
theorem s_caught (x : D) : callN 14 "_law_caught" [x] = .ok (.tup [.lst true [.int 16], .lst true [], .bl true]) [] := by kernel_rfl
theorem eq_caught : eqD (.tup [.lst true [.int 16], .lst true [], .bl true]) (.tup [.lst true [.int 16], .lst true [], .bl true]) = some (.bl true) := by kernel_rfl
def spot (v w : V) : D := .exn "BadSpot" [("place", .hole w), ("part", .hole v)]
theorem it_spots (C : Orc) (scr k a6 : Option D) (d o u : D) (v w : V) : (mItems (mTup (mCons (mExn "BadSpot" ["part", "place"] (mCons (mAl 3) (mCons (mAl 4) mNil))) (mCons (mExnK "BadSpot" ["part", "place"] [1, 0] (mCons (mAl 4) (mCons (mAl 3) mNil))) mNil)))) (eL scr d k (some (.al v o)) (some (.al w u)) none a6 none none none) = .ok [spot v w, spot v w] (eL scr d k (some (.al v o)) (some (.al w u)) none a6 none none none) := by kernel_rfl
theorem k_spot (v w : V) : callN 14 "_law_kinds" [spot v w] = .ok (.lst true []) [] := by kernel_rfl
theorem ne_nil : neD (.lst true []) (.lst true []) = some (.bl false) := by kernel_rfl
theorem x_spot (v w : V) : isXD excls ["RunError"] isTab (spot v w) = some (.bl true) := by kernel_rfl
theorem f_part (v w : V) (e : En) : rXat fld_part "part" (fun _ => some (spot v w)) e = some (.hole v) := by kernel_rfl
theorem f_place (v w : V) (e : En) : rXat fld_place "place" (fun _ => some (spot v w)) e = some (.hole w) := by kernel_rfl
end LK
end

-- text S7
section
set_option Elab.async false
set_option linter.all false
set_option maxRecDepth 100000
set_option maxHeartbeats 4000000
namespace LK
open PySem PySem.Spec PyProof.Rows L2 TL
theorem sSeq_nx {a b : MS} {e e' : En} (h : a e = .nx e') : sSeq a b e = b e' := by
  unfold sSeq
  rw [h]
theorem sForget_nx {is : List Nat} {m : MS} {e e' : En} (h : m e = .nx e') : sForgetR is m e = .nx (is.foldl (fun e i => e.set i none) e') := by
  unfold sForgetR
  rw [h]
theorem sForget_rt {is : List Nat} {m : MS} {e e' : En} {d : D} (h : m e = .rt d e') : sForgetR is m e = .rt d (is.foldl (fun e i => e.set i none) e') := by
  unfold sForgetR
  rw [h]
theorem seq_assoc (a b c : MS) (e : En) : sSeq a (sSeq b c) e = sSeq (sSeq a b) c e := by
  unfold sSeq
  cases a e <;> rfl
theorem forL_inv {st : D → En → Option En} {body : MS} {P : Nat → En → Prop} (B s : Nat) : ∀ (xs : List D) (n : Nat) (e : En), P n e → (∀ x ∈ xs, ∀ n e, P n e → n < B → ∃ e1 e2, st x e = some e1 ∧ body e1 = .nx e2 ∧ P (n + s) e2) → n + s * xs.length < B →
    ∃ e', forL st body xs e = .nx e' ∧ P (n + s * xs.length) e'
  | [], n, e, hp, _, _ => ⟨e, rfl, by simpa using hp⟩
  | x :: xs, n, e, hp, H, hn => by
    have hl : s * (x :: xs).length = s * xs.length + s := by simp [Nat.mul_succ]
    rw [hl] at hn ⊢
    obtain ⟨e1, e2, h1, h2, h3⟩ := H x (by simp) n e hp (by omega)
    obtain ⟨e', h4, h5⟩ := forL_inv B s xs (n + s) e2 h3 (fun y hy => H y (by simp [hy])) (by omega)
    refine ⟨e', ?_, by rw [show n + (s * xs.length + s) = n + s + s * xs.length by omega]; exact h5⟩
    simp [forL, h1, h2, RS.turn, h4]
theorem rng1_of {j : Int} (h : -(2 ^ 62) ≤ j ∧ j < 2 ^ 62) : rng1 [.int j] = some ((List.range j.toNat).map fun (i : Nat) => .int (0 + i)) := by
  unfold rng1
  exact if_pos h
theorem rng1_nat (n : Nat) (h : n < 64) : rng1 [.int (n : Int)] = some ((List.range n).map fun (i : Nat) => .int (0 + i)) := by
  have e : (2 : Int) ^ 62 = 4611686018427387904 := by decide
  rw [rng1_of (by rw [e]; omega), Int.toNat_natCast]
theorem mIt_of {f : List D → Option (List D)} {ms : M (List D)} {ds xs : List D} {e e' : En} (h : ms e = .ok ds e') (hz : frzL ds = ds) (hf : f ds = some xs) : mIt f ms e = .ok xs e' := by
  simp only [mIt, h, ok_bind, hz, hf]
theorem rng_lit (m : Nat) (hm : m < 64) (e : En) : mIt rng1 (mCons (mCp (rC (.int m))) mNil) e = .ok ((List.range m).map fun (i : Nat) => .int (0 + i)) e := by
  have h : (mCons (mCp (rC (.int m))) mNil) e = .ok [.int (m : Int)] e := by simp [mCons, mCp, isFrz, mNil]
  exact mIt_of h rfl (rng1_nat m hm)
theorem c3_step (scr k a m q : Option D) (d o u : D) (v w : V) (ho : Ob o) (hu : Ob u) : lC3 (callN 14) (eL scr d k (some (.al v o)) (some (.al w u)) m a (some (.hole v)) q (some (.hole w))) = .nx (eL scr d k (some (.al v o)) (some (.al w u)) m a (some (.hole v)) q (some (.hole w))) := by
  have v1 := s_very (k := 13) (v := v) ho
  have v2 := s_very (k := 13) (v := w) hu
  simp only [Nat.reduceAdd] at v1 v2
  simp [lC3, eL, sIf, mOrT, mNotT, mTru, mCall, mCons, mGet, mMov, mNil, frz, v1, v2, CR.back, putB, truD, sPass]
def mN (n : Nat) (v : V) : Option D := match n with
  | 0 => some (.exn "BadExpression" [("expression", .hole v)])
  | 1 => some (.exn "BadValues" [("given", .hole v)])
  | 2 => some (.exn "BadProcs" [("index", .hole v)])
  | 3 => some (.exn "BadName" [("f", .hole v)])
  | 4 => some (.exn "BadProcedure" [("procedure", .hole v)])
  | 5 => some (.exn "BadProgram" [("program", .hole v)])
  | 6 => some (.exn "BadExpressionText" [("text", .hole v)])
  | 7 => some (.exn "BadProgramText" [("line", .hole v)])
  | 8 => some (.exn "BadLine" [("line", .hole v)])
  | 9 => some (.exn "BadPoint" [("point", .hole v)])
  | 10 => some (.exn "BadInputs" [("inputs", .hole v)])
  | 11 => some (.exn "BadStanding" [("standing", .hole v)])
  | 12 => some (.exn "BadChoice" [("choice", .hole v)])
  | 13 => some (.exn "BadChoices" [("index", .hole v)])
  | 14 => some (.exn "BadMost" [("most", .hole v)])
  | 15 => some (.exn "BadArgs" [("given", .hole v)])
  | 16 => some (.exn "BadAnswer" [("answer", .hole v)])
  | 17 => some (.exn "BadPaperText" [("line", .hole v)])
  | 18 => some (.exn "BadTold" [("told", .hole v)])
  | 19 => some (.exn "BadOrder" [("index", .hole v)])
  | 20 => some (.exn "BadPlace" [("place", .hole v)])
  | 21 => some (.exn "BadLineNumber" [("line", .hole v)])
  | 22 => some (.exn "BadRuns" [("index", .hole v)])
  | 23 => some (.exn "Ended" [("outcome", .hole v)])
  | _ => none
theorem body_all (n : Nat) (hn : n < 24) (scr k : Option D) (d o u : D) (v w : V) (ho : Ob o) (hu : Ob u) : ∃ q, sSeq (lA1 (callN 14)) (sSeq (lA2 (callN 14)) (sSeq (lC1 (callN 14)) (sSeq (lC2 (callN 14)) (lC3 (callN 14))))) (eL scr d k (some (.al v o)) (some (.al w u)) none (some (.int n)) none none none) = .nx (eL scr d k (some (.al v o)) (some (.al w u)) (mN n v) (some (.int n)) (some (.hole v)) q (some (.hole w))) := by
  have key : ∀ {e e1 e2 : En}, lP (callN 14) e = .nx e1 → lC3 (callN 14) e1 = .nx e2 → sSeq (lA1 (callN 14)) (sSeq (lA2 (callN 14)) (sSeq (lC1 (callN 14)) (sSeq (lC2 (callN 14)) (lC3 (callN 14))))) e = .nx e2 := fun {e e1 e2} h1 h2 => by
    have a1 : ∀ x, sSeq (lC1 (callN 14)) (sSeq (lC2 (callN 14)) (lC3 (callN 14))) x = sSeq (sSeq (lC1 (callN 14)) (lC2 (callN 14))) (lC3 (callN 14)) x := seq_assoc _ _ _
    have a2 : ∀ x, sSeq (lA2 (callN 14)) (sSeq (lC1 (callN 14)) (sSeq (lC2 (callN 14)) (lC3 (callN 14)))) x = sSeq (sSeq (lA2 (callN 14)) (sSeq (lC1 (callN 14)) (lC2 (callN 14)))) (lC3 (callN 14)) x := fun x => by rw [funext a1, seq_assoc]
    rw [funext a2, seq_assoc]
    show sSeq (lP (callN 14)) (lC3 (callN 14)) e = _
    unfold sSeq
    rw [h1]
    exact h2
  have hc : n = 0 ∨ n = 1 ∨ n = 2 ∨ n = 3 ∨ n = 4 ∨ n = 5 ∨ n = 6 ∨ n = 7 ∨ n = 8 ∨ n = 9 ∨ n = 10 ∨ n = 11 ∨ n = 12 ∨ n = 13 ∨ n = 14 ∨ n = 15 ∨ n = 16 ∨ n = 17 ∨ n = 18 ∨ n = 19 ∨ n = 20 ∨ n = 21 ∨ n = 22 ∨ n = 23 := by omega
  rcases hc with rfl | rfl | rfl | rfl | rfl | rfl | rfl | rfl | rfl | rfl | rfl | rfl | rfl | rfl | rfl | rfl | rfl | rfl | rfl | rfl | rfl | rfl | rfl | rfl
  · exact ⟨_, key (a_0 scr k d o u v w) (c3_step _ _ _ _ _ _ _ _ _ _ ho hu)⟩
  · exact ⟨_, key (a_1 scr k d o u v w) (c3_step _ _ _ _ _ _ _ _ _ _ ho hu)⟩
  · exact ⟨_, key (a_2 scr k d o u v w) (c3_step _ _ _ _ _ _ _ _ _ _ ho hu)⟩
  · exact ⟨_, key (a_3 scr k d o u v w) (c3_step _ _ _ _ _ _ _ _ _ _ ho hu)⟩
  · exact ⟨_, key (a_4 scr k d o u v w) (c3_step _ _ _ _ _ _ _ _ _ _ ho hu)⟩
  · exact ⟨_, key (a_5 scr k d o u v w) (c3_step _ _ _ _ _ _ _ _ _ _ ho hu)⟩
  · exact ⟨_, key (a_6 scr k d o u v w) (c3_step _ _ _ _ _ _ _ _ _ _ ho hu)⟩
  · exact ⟨_, key (a_7 scr k d o u v w) (c3_step _ _ _ _ _ _ _ _ _ _ ho hu)⟩
  · exact ⟨_, key (a_8 scr k d o u v w) (c3_step _ _ _ _ _ _ _ _ _ _ ho hu)⟩
  · exact ⟨_, key (a_9 scr k d o u v w) (c3_step _ _ _ _ _ _ _ _ _ _ ho hu)⟩
  · exact ⟨_, key (a_10 scr k d o u v w) (c3_step _ _ _ _ _ _ _ _ _ _ ho hu)⟩
  · exact ⟨_, key (a_11 scr k d o u v w) (c3_step _ _ _ _ _ _ _ _ _ _ ho hu)⟩
  · exact ⟨_, key (a_12 scr k d o u v w) (c3_step _ _ _ _ _ _ _ _ _ _ ho hu)⟩
  · exact ⟨_, key (a_13 scr k d o u v w) (c3_step _ _ _ _ _ _ _ _ _ _ ho hu)⟩
  · exact ⟨_, key (a_14 scr k d o u v w) (c3_step _ _ _ _ _ _ _ _ _ _ ho hu)⟩
  · exact ⟨_, key (a_15 scr k d o u v w) (c3_step _ _ _ _ _ _ _ _ _ _ ho hu)⟩
  · exact ⟨_, key (a_16 scr k d o u v w) (c3_step _ _ _ _ _ _ _ _ _ _ ho hu)⟩
  · exact ⟨_, key (a_17 scr k d o u v w) (c3_step _ _ _ _ _ _ _ _ _ _ ho hu)⟩
  · exact ⟨_, key (a_18 scr k d o u v w) (c3_step _ _ _ _ _ _ _ _ _ _ ho hu)⟩
  · exact ⟨_, key (a_19 scr k d o u v w) (c3_step _ _ _ _ _ _ _ _ _ _ ho hu)⟩
  · exact ⟨_, key (a_20 scr k d o u v w) (c3_step _ _ _ _ _ _ _ _ _ _ ho hu)⟩
  · exact ⟨_, key (a_21 scr k d o u v w) (c3_step _ _ _ _ _ _ _ _ _ _ ho hu)⟩
  · exact ⟨_, key (a_22 scr k d o u v w) (c3_step _ _ _ _ _ _ _ _ _ _ ho hu)⟩
  · exact ⟨_, key (a_23 scr k d o u v w) (c3_step _ _ _ _ _ _ _ _ _ _ ho hu)⟩
theorem in_step (i k : Nat) (hi : i < 48) (scr a : Option D) (d : D) (h : Okst d k) (hk : k < 800000) : ∃ d' a', lIn (callN 14) (eL scr d (some (.int i)) none none none a none none none) = .nx (eL scr d' (some (.int i)) none none none a' none none none) ∧ Okst d' (k + 7) := by
  obtain ⟨d1, n, hn, e1, k1⟩ : ∃ d1 n, n < 24 ∧ lS0 (callN 14) (eL scr d (some (.int i)) none none none a none none none) = .nx (eL scr d1 (some (.int i)) none none none (some (.int (n : Nat))) none none none) ∧ Okst d1 (k + 1) := by
    by_cases c : i < 24
    · obtain ⟨d1, r, e1, a1, b1, k1⟩ := s_pick (k := 13) (m := 24) h (by omega) (by omega) (by omega)
      simp only [Nat.reduceAdd] at e1
      have hm : modD (.int ((i : Int) + r)) (.int 24) = some (.int (((i : Int) + r) % 24)) := modD_of (by omega)
      have ci : ((i : Int) < 24) := by omega
      refine ⟨d1, (((i : Int) + r) % 24).toNat, by omega, ?_, k1⟩
      have e3 : ((((i : Int) + r) % 24).toNat : Int) = ((i : Int) + r) % 24 := Int.toNat_of_nonneg (by omega)
      rw [e3]
      simp [lS0, eL, sSet, mIf, mRT, rBin, ci, truD, mBin, mV1, mGet, frz, mCall, mCons, mMov, mCp, isFrz, mNil, e1, CR.back, putB, hm, setE]
    · have ci : ¬ ((i : Int) < 24) := by omega
      refine ⟨d, i - 24, by omega, ?_, h.up (by omega)⟩
      have e3 : ((i - 24 : Nat) : Int) = (i : Int) - 24 := by omega
      rw [e3]
      simp [lS0, eL, sSet, mIf, mRT, rBin, ci, truD, mCp, isFrz, setE]
  obtain ⟨d2, o, e2, ho, k2⟩ := s_object (k := 11) k1 (by omega)
  obtain ⟨d3, u, e3, hu, k3⟩ := s_object (k := 11) k2 (by omega)
  simp only [Nat.reduceAdd] at e2 e3
  have s2 : lP0 (callN 14) (eL scr d1 (some (.int i)) none none none (some (.int n)) none none none) = .nx (eL scr d3 (some (.int i)) (some o) (some u) none (some (.int n)) none none none) := by
    simp [lP0, eL, sPar, parK, mCons, mCall, mMov, mNil, e2, e3, CR.back, putB]
  refine ⟨d3, some (.int n), ?_, k3.up (by omega)⟩
  unfold lIn
  rw [sSeq_nx e1, sSeq_nx s2]
  refine sLab_eq (d := o) rfl fun v => ?_
  show sForgetR [3, 4, 5, 7, 8, 9] (sLab 4 _) (eL scr d3 (some (.int i)) (some (.al v o)) (some u) none (some (.int n)) none none none) = _
  have hin : sLab 4 (sForgetR [4, 5, 8, 9] (sSeq (lA1 (callN 14)) (sSeq (lA2 (callN 14)) (sSeq (lC1 (callN 14)) (sSeq (lC2 (callN 14)) (lC3 (callN 14))))))) (eL scr d3 (some (.int i)) (some (.al v o)) (some u) none (some (.int n)) none none none) = .nx (eL scr d3 (some (.int i)) (some (.al v o)) none none (some (.int n)) (some (.hole v)) none none) := by
    refine sLab_eq (d := u) rfl fun w => ?_
    obtain ⟨q, h1⟩ := body_all n hn scr (some (.int i)) d3 o u v w ho hu
    show sForgetR [4, 5, 8, 9] _ (eL scr d3 (some (.int i)) (some (.al v o)) (some (.al w u)) none (some (.int n)) none none none) = _
    rw [sForget_nx h1]
    rfl
  rw [sForget_nx hin]
  rfl
theorem sFor_ok {mi : M (List D)} {st : D → En → Option En} {body : MS} {e e' : En} {xs : List D} (h : mi e = .ok xs e') : sFor mi st body e = forL st body xs e' := by
  unfold sFor
  rw [h]
  rfl
theorem forL_step {st : D → En → Option En} {body : MS} {x : D} {xs : List D} {e e1 e2 : En} (h1 : st x e = some e1) (h2 : body e1 = .nx e2) : forL st body (x :: xs) e = forL st body xs e2 := by
  simp only [forL, h1, h2, RS.turn]
theorem spot_step (scr k a : Option D) (d o u : D) (v w : V) (ho : Ob o) (hu : Ob u) : lB1 (callN 14) (eL scr d k (some (.al v o)) (some (.al w u)) (some (spot v w)) a none none none) = .nx (eL scr d k (some (.al v o)) (some (.al w u)) (some (spot v w)) a none none none) := by
  have v1 := s_very (k := 13) (v := v) ho
  have v2 := s_very (k := 13) (v := w) hu
  simp only [Nat.reduceAdd] at v1 v2
  have fz : frz (spot v w) = spot v w := by kernel_rfl
  have p1 : ∀ (s3 s4 : Option D), rXat fld_part "part" (rN 5) [scr, some d, k, s3, s4, some (spot v w), a, none, none, none] = some (.hole v) := fun s3 s4 => by kernel_rfl
  have p2 : ∀ (s3 s4 : Option D), rXat fld_place "place" (rN 5) [scr, some d, k, s3, s4, some (spot v w), a, none, none, none] = some (.hole w) := fun s3 s4 => by kernel_rfl
  simp [lB1, eL, sIf, mOrT, mNotT, mTru, mR, rUn, x_spot, mBin, mCall, mCons, mGet, fz, mCp, p1, p2, isFrz, mMov, mNil, mLst, k_spot, ne_nil, v1, v2, CR.back, putB, truD, sPass]
theorem end_step (scr k a : Option D) (d o u : D) (v w : V) (ho : Ob o) (hu : Ob u) : lF1 (callN 14) (eL scr d k (some (.al v o)) (some (.al w u)) none a none none none) = .nx (eL scr d k (some (.al v o)) (some (.al w u)) (some (spot v w)) a none none none) := by
  have b := spot_step scr k a d o u v w ho hu
  have t0 : ∀ s5, tgN 5 (spot v w) (eL scr d k (some (.al v o)) (some (.al w u)) s5 a none none none) = some (eL scr d k (some (.al v o)) (some (.al w u)) (some (spot v w)) a none none none) := fun _ => rfl
  unfold lF1
  rw [sFor_ok (it_spots (callN 14) _ _ _ _ _ _ _ _), forL_step (t0 _) b, forL_step (t0 _) b]
  rfl
theorem law_holds (ns : List Int) (hl : ns.length ≤ 63) : runF 10 [] (m_law (callN 14)) [.lst false (ns.map .int)] = .ok (.bl true) [] := by
  obtain ⟨d, h1, h2⟩ := s_start 13 ns hl
  simp only [Nat.reduceAdd] at h1
  have hf : frzL (ns.map D.int) = ns.map D.int := by
    rw [frzL_map, List.map_map]
    exact List.map_congr_left fun q _ => rfl
  obtain ⟨e', h3, d', k', a', h4, h5⟩ := forL_inv (st := tgN 2) (body := lIn (callN 14)) (P := fun k e => ∃ d kk a, e = eL (some (.lst false (ns.map .int))) d kk none none none a none none none ∧ Okst d k) 800000 7 ((List.range 48).map fun (i : Nat) => .int (0 + i)) 0 (eL (some (.lst false (ns.map .int))) d none none none none none none none none) ⟨d, none, none, rfl, h2⟩ (fun x hx k e ⟨d, kk, a, he, hd⟩ hk => by
    subst he
    obtain ⟨i, hi, rfl⟩ := List.mem_map.mp hx
    have hi' : i < 48 := List.mem_range.mp hi
    obtain ⟨d', a', h4, h5⟩ := in_step i k hi' (some (.lst false (ns.map .int))) a d hd hk
    refine ⟨eL (some (.lst false (ns.map .int))) d (some (.int i)) none none none a none none none, _, ?_, h4, d', _, a', rfl, h5⟩
    show some _ = some _
    rw [show (0 + (i : Int)) = (i : Int) by omega]
    rfl) (by simp)
  obtain ⟨d2, o, e2, ho, k2⟩ := s_object (k := 11) h5 (by simp)
  obtain ⟨d3, u, e3, hu, k3⟩ := s_object (k := 11) k2 (by simp)
  obtain ⟨d4, x, h7, _, _⟩ := s_object (k := 11) k3 (by simp)
  simp only [Nat.reduceAdd] at e2 e3 h7
  have hr := rng_lit 48 (by omega) (eL (some (.lst false (ns.map .int))) d none none none none none none none none)
  show (m_law (callN 14) [some (.lst false (ns.map .int)), none, none, none, none, none, none, none, none, none]).cr [] = _
  rw [law_parts]
  have s1 : sSet 1 (mCall (callN 14 "_law_start") [false] [none] (mCons (mGet 0) mNil)) [some (.lst false (ns.map .int)), none, none, none, none, none, none, none, none, none] = .nx (eL (some (.lst false (ns.map .int))) d none none none none none none none none) := by
    simp [eL, sSet, mCall, mCons, mGet, frz, hf, mNil, h1, CR.back, putB, setE]
  have s2 : sFor (mIt rng1 (mCons (mCp (rC (.int 48))) mNil)) (tgN 2) (lIn (callN 14)) (eL (some (.lst false (ns.map .int))) d none none none none none none none none) = .nx (eL (some (.lst false (ns.map .int))) d' k' none none none a' none none none) := by
    unfold sFor
    rw [show ((48 : Int)) = ((48 : Nat) : Int) from rfl, hr]
    show forL _ _ _ _ = _
    rw [h3, h4]
  have s3 : lP0 (callN 14) (eL (some (.lst false (ns.map .int))) d' k' none none none a' none none none) = .nx (eL (some (.lst false (ns.map .int))) d3 k' (some o) (some u) none a' none none none) := by
    simp [lP0, eL, sPar, parK, mCons, mCall, mMov, mNil, e2, e3, CR.back, putB]
  have s4 : lEnd (callN 14) (eL (some (.lst false (ns.map .int))) d' k' none none none a' none none none) = .rt (.bl true) (eL (some (.lst false (ns.map .int))) d4 k' none none none a' none none none) := by
    unfold lEnd
    rw [sSeq_nx s3]
    refine sLab_eq (d := o) rfl fun v => ?_
    show sForgetR [3, 4, 5, 7, 8, 9] (sLab 4 _) (eL (some (.lst false (ns.map .int))) d3 k' (some (.al v o)) (some u) none a' none none none) = _
    have hin : sLab 4 (sForgetR [4, 5, 8, 9] (sSeq (lF1 (callN 14)) (lR1 (callN 14)))) (eL (some (.lst false (ns.map .int))) d3 k' (some (.al v o)) (some u) none a' none none none) = .rt (.bl true) (eL (some (.lst false (ns.map .int))) d4 k' (some (.al v o)) none none a' none none none) := by
      refine sLab_eq (d := u) rfl fun w => ?_
      show sForgetR [4, 5, 8, 9] _ (eL (some (.lst false (ns.map .int))) d3 k' (some (.al v o)) (some (.al w u)) none a' none none none) = _
      have r1 : sSeq (lF1 (callN 14)) (lR1 (callN 14)) (eL (some (.lst false (ns.map .int))) d3 k' (some (.al v o)) (some (.al w u)) none a' none none none) = .rt (.bl true) (eL (some (.lst false (ns.map .int))) d4 k' (some (.al v o)) (some (.al w u)) (some (spot v w)) a' none none none) := by
        rw [sSeq_nx (end_step _ _ _ _ _ _ _ _ ho hu)]
        simp [lR1, eL, sRet, mBin, mCall, mCons, mMov, mNil, h7, s_caught, CR.back, putB, mTup, mLst, mCp, isFrz, sizeLine_eq, eq_caught]
      rw [sForget_rt r1]
      rfl
    rw [sForget_rt hin]
    rfl
  rw [sSeq_nx s1, sSeq_nx s2, s4]
  rfl
end LK
end

-- text K00e
section
set_option Elab.async false
set_option linter.all false
set_option maxRecDepth 100000
set_option maxHeartbeats 0
open PySem PySem.W PySem.Calls PyProof.Rows
theorem PySem.Challenge.cw_runorproof_k00_errors_made_of (hlaw : ∀ ns : List Int, ns.length ≤ 63 → TL.runF 10 [] (LK.m_law (LK.callN LK.NN)) [.lst false (ns.map .int)] = .ok (.bl true) []) : PySem.Challenge.rw_runorproof_k00_errors_made.Holds := by
  w_on; o_law
  refine HandSHeadRun.head_any (r := OpenLaw.row PySem.Challenge.rw_runorproof_k00_errors_made) (q := view (OpenLaw.row PySem.Challenge.rw_runorproof_k00_errors_made).prog [43]) (H := LK.hk) (ob := LK.ob) (M := 20000) (loose := LK.loose) (d := HandSHeadRun.topDef (OpenLaw.row PySem.Challenge.rw_runorproof_k00_errors_made).prog 43) (kwd := []) LK.ob_eq
    (by kernel_rfl) (fun s => by kernel_rfl) LK.run (by kernel_rfl) (by kernel_rfl) (by kernel_rfl) (by rfl) (by first | assumption | decide +kernel) (by decide +kernel) ⟨rfl, rfl, rfl, rfl, rfl, by decide +kernel⟩ ?hw ?hc
  case hw => w_witness2
  case hc =>
    refine L2.walk_ofE (l := PySem.Challenge.rw_runorproof_k00_errors_made) (n := 63) (k := LK.NN + 3) (x := "script") (CX := L2.CX0) rfl (by decide) (by kernel_rfl) ⟨rfl, by decide, by decide⟩ ?F (fun _ _ _ _ z => z)
    intro w mg fa h Y G hmg0
    obtain ⟨K, KX, c⟩ := Y
    have hmg : mg ("law" : PySem.Str) = some (.ref fa) := by
      have e : (HandSHeadRun.topDef (OpenLaw.row PySem.Challenge.rw_runorproof_k00_errors_made).prog 43).name = ("law" : PySem.Str) := by kernel_rfl
      rw [← e]
      exact hmg0
    have Z := LK.hdF_of KX G c
    have ea : He.ga K "law" = fa := by
      have e := (Z.glo "law" (by decide +kernel)).symm.trans hmg
      cases e
      rfl
    subst ea
    obtain ⟨fd, F⟩ := LK.fd_law Z
    refine ⟨K, fd, _, KX, fun s u => (L2.FunD.bindsA (ps := ["script"]) F fun _ _ _ _ _ _ us hl => match us, hl with | [_], _ => rfl) s [u] rfl, fun H a ns hl _ hS => ?_, fun base _ _ => TL.fnok_cx0 (LK.law_ok Z F)⟩
    exact TL.law_sp (g := LK.gl K) rfl hS (hlaw ns hl)
end

theorem PySem.Challenge.cw_runorproof_k00_errors_made_holds : PySem.Challenge.rw_runorproof_k00_errors_made.Holds :=
  PySem.Challenge.cw_runorproof_k00_errors_made_of LK.law_holds
