import PyProof.Rows.All
import Wide.All
import OpenK.AllK
import Wide.FinOn
import HandS.ForMost
import HandS.Deep
import HandS.TryMany
import HandS.ExcInit
import KE.DataEq
import KE.DataCmp
import HandS.Wide
import HandS.Style
import HandS.TupAny
import KE.SortData
import KE.DataMinMax
import KE.DataFind
import HandS.IsInst
import HandS.Conv
import PyProof.ReprReads
import KE.SortKeyHeap
import KE.DataAny
import HandS.Small
import HandS.WordsDict
import HandS.TupLen
import HandS.SortKw
import HandS.Defaults
import HandS.ExcOwn
import HandS.HeadHook1
import HandS.ExcField
import HandS.NoneIn
import HandS.SlotsOwn
import HandS.Star
import HandS.TupSets
import HandS.Remove
import HandS.OwnEq
import HandS.Strs
import HandS.FStr
import HandS.Text
import HandS.Codes
import HandS.Head0
import HandS.Head1
import HandS.Head2
import HandS.HeadEnd
import HandS.HeadHook2
import PySem.Challenge.RW_mapfound_k92_whole_rows_of_trees
set_option Elab.async false
set_option linter.all false
/-! Data as trees over the hand layer's abstract heap: what is frozen never changes, what is owned is named from one place alone. -/
namespace Mf
open PySem PySem.Spec PyProof.Rows L2

/-- own: named from here alone, may be changed; frz: never changed again; tag: the same, and its address is told -/
inductive Mk where
  | own | frz | tag (a : Addr)

inductive D where
  | non | bl (b : Bool) | int (i : Int) | str (x : Str)
  | lst (m : Mk) (xs : List D)
  | tup (xs : List D)
  | dct (m : Mk) (kvs : List (Key × D))
  | dtt (m : Mk) (kvs : List (List Key × D))
  | ins (m : Mk) (c : Str) (fs : List (Str × D))
  | ptr (a : Addr)
  | cls (c : Str)
  | scr (ns : List Int)
  | typ (n : String)
  | exn (a dd : Addr) (c : Str) (fs : List (Str × D))
  | raw (o : HO)
  | opq

/-- what the written part says -/
structure Tx where
  K : PySem.W.Frag
  mg : Str → Option Value

def Mk.fits (a : Addr) : Mk → Prop
  | .own => False
  | .frz => True
  | .tag b => a = b

mutual
inductive RO (T : Tx) (F H : Hp) : V → D → List Addr → Prop
  | non : RO T F H .non .non []
  | bl (b) : RO T F H (.bl b) (.bl b) []
  | int (i) : RO T F H (.int i) (.int i) []
  | str (x) : RO T F H (.str x) (.str x) []
  | ptr (a) : RO T F H (.ref a) (.ptr a) []
  | cls {c C} : T.mg c = some (.ref C) → RO T F H (.ref C) (.cls c) []
  | typ (n) : RO T F H (.ty n) (.typ n) []
  | raw {a o} : H a = some o → RO T F H (.ref a) (.raw o) [a]
  | opq (a) : RO T F H (.ref a) .opq []
  | exn {a dd c C vs fs} : T.mg c = some (.ref C) → F dd = some (.xd vs) → vs.map (·.1) = fs.map (·.1) → ROs T F H (vs.map (·.2)) (fs.map (·.2)) [] → RO T F H (.ref a) (.exn a dd c fs) []
  | scr {a ns} : SqL T.K F a (ns.map V.int) → RO T F H (.ref a) (.scr ns) []
  | lstO {a vs ds A} : H a = some (.lst vs) → ROs T F H vs ds A → RO T F H (.ref a) (.lst .own ds) (a :: A)
  | lstF {a vs ds m} : m.fits a → F a = some (.lst vs) → ROs T F H vs ds [] → RO T F H (.ref a) (.lst m ds) []
  | tup {a vs ds A} : F a = some (.tup vs) → ROs T F H vs ds A → RO T F H (.ref a) (.tup ds) A
  | dctO {a kvs ds A} : H a = some (.dK kvs) → kvs.map (·.1) = ds.map (·.1) → ROs T F H (kvs.map (·.2)) (ds.map (·.2)) A → RO T F H (.ref a) (.dct .own ds) (a :: A)
  | dctF {a kvs ds m} : m.fits a → F a = some (.dK kvs) → kvs.map (·.1) = ds.map (·.1) → ROs T F H (kvs.map (·.2)) (ds.map (·.2)) [] → RO T F H (.ref a) (.dct m ds) []
  | dttO {a kvs ds A} : H a = some (.dT kvs) → kvs.map (·.1) = ds.map (·.1) → ROs T F H (kvs.map (·.2)) (ds.map (·.2)) A → RO T F H (.ref a) (.dtt .own ds) (a :: A)
  | dttF {a kvs ds m} : m.fits a → F a = some (.dT kvs) → kvs.map (·.1) = ds.map (·.1) → ROs T F H (kvs.map (·.2)) (ds.map (·.2)) [] → RO T F H (.ref a) (.dtt m ds) []
  | insO {a c C dx fs ds A} : T.mg c = some (.ref C) → H a = some (.ins C dx fs) → fs.map (·.1) = ds.map (·.1) → ROs T F H (fs.map (·.2)) (ds.map (·.2)) A → RO T F H (.ref a) (.ins .own c ds) (a :: A)
  | insF {a c C dx fs ds m} : m.fits a → T.mg c = some (.ref C) → F a = some (.ins C dx fs) → fs.map (·.1) = ds.map (·.1) → ROs T F H (fs.map (·.2)) (ds.map (·.2)) [] → RO T F H (.ref a) (.ins m c ds) []
inductive ROs (T : Tx) (F H : Hp) : List V → List D → List Addr → Prop
  | nil : ROs T F H [] [] []
  | cons {v d A vs ds B} : RO T F H v d A → ROs T F H vs ds B → ROs T F H (v :: vs) (d :: ds) (A ++ B)
end

mutual
/-- frozen -/
def fz : D → D
  | .lst .own xs => .lst .frz (fzs xs)
  | .lst m xs => .lst m xs
  | .tup xs => .tup (fzs xs)
  | .dct .own kvs => .dct .frz (fzp kvs)
  | .dct m kvs => .dct m kvs
  | .dtt .own kvs => .dtt .frz (fzq kvs)
  | .dtt m kvs => .dtt m kvs
  | .ins .own c fs => .ins .frz c (fzn fs)
  | .ins m c fs => .ins m c fs
  | .raw _ => .opq
  | d => d
def fzs : List D → List D
  | [] => []
  | d :: r => fz d :: fzs r
def fzp : List (Key × D) → List (Key × D)
  | [] => []
  | (k, d) :: r => (k, fz d) :: fzp r
def fzq : List (List Key × D) → List (List Key × D)
  | [] => []
  | (k, d) :: r => (k, fz d) :: fzq r
def fzn : List (Str × D) → List (Str × D)
  | [] => []
  | (k, d) :: r => (k, fz d) :: fzn r
end

mutual
/-- nothing of it is owned -/
def nown : D → Bool
  | .lst .own _ => false
  | .tup xs => nowns xs
  | .dct .own _ => false
  | .dtt .own _ => false
  | .ins .own _ _ => false
  | .raw _ => false
  | _ => true
def nowns : List D → Bool
  | [] => true
  | d :: r => nown d && nowns r
end

theorem SqL_of {K : PySem.W.Frag} {H : Hp} {a xs} (h : H a = some (.lst xs)) : SqL K H a xs := .inl (.inl h)
theorem SqT_of {K : PySem.W.Frag} {H : Hp} {a xs} (h : H a = some (.tup xs)) : SqT K H a xs := .inl (.inl h)
theorem SqL.same {K : PySem.W.Frag} {F F' : Hp} {a xs} (e : Same F F') (h : SqL K F a xs) : SqL K F' a xs := e.seq h
theorem SqT.same {K : PySem.W.Frag} {F F' : Hp} {a xs} (e : Same F F') (h : SqT K F a xs) : SqT K F' a xs := by
  rcases h with (h | ⟨o, h⟩) | h
  · exact .inl (.inl (e _ _ h))
  · exact .inl (.inr ⟨o, e _ _ h⟩)
  · exact .inr h

theorem fzs_eq : ∀ xs : List D, fzs xs = xs.map fz
  | [] => rfl
  | d :: r => by rw [fzs, fzs_eq r]; rfl
theorem fzp_eq : ∀ xs : List (Key × D), fzp xs = xs.map fun p => (p.1, fz p.2)
  | [] => rfl
  | (k, d) :: r => by rw [fzp, fzp_eq r]; rfl
theorem fzq_eq : ∀ xs : List (List Key × D), fzq xs = xs.map fun p => (p.1, fz p.2)
  | [] => rfl
  | (k, d) :: r => by rw [fzq, fzq_eq r]; rfl
theorem fzn_eq : ∀ xs : List (Str × D), fzn xs = xs.map fun p => (p.1, fz p.2)
  | [] => rfl
  | (k, d) :: r => by rw [fzn, fzn_eq r]; rfl
theorem k1 {κ : Type} (f : List (κ × D) → List (κ × D)) (h : ∀ xs, f xs = xs.map fun p => (p.1, fz p.2)) (xs) : (f xs).map (·.1) = xs.map (·.1) := by
  rw [h, List.map_map]; rfl
theorem k2 {κ : Type} (f : List (κ × D) → List (κ × D)) (h : ∀ xs, f xs = xs.map fun p => (p.1, fz p.2)) (xs) : (f xs).map (·.2) = fzs (xs.map (·.2)) := by
  rw [h, fzs_eq, List.map_map, List.map_map]; rfl

mutual
theorem nown_fz : ∀ d : D, nown (fz d) = true
  | .non => rfl
  | .bl _ => rfl
  | .int _ => rfl
  | .str _ => rfl
  | .ptr _ => rfl
  | .cls _ => rfl
  | .scr _ => rfl
  | .typ _ => rfl
  | .exn _ _ _ _ => rfl
  | .raw _ => rfl
  | .opq => rfl
  | .lst .own _ => rfl
  | .lst .frz _ => rfl
  | .lst (.tag _) _ => rfl
  | .tup xs => by rw [fz, nown]; exact nowns_fz xs
  | .dct .own _ => rfl
  | .dct .frz _ => rfl
  | .dct (.tag _) _ => rfl
  | .dtt .own _ => rfl
  | .dtt .frz _ => rfl
  | .dtt (.tag _) _ => rfl
  | .ins .own _ _ => rfl
  | .ins .frz _ _ => rfl
  | .ins (.tag _) _ _ => rfl
theorem nowns_fz : ∀ d : List D, nowns (fzs d) = true
  | [] => rfl
  | d :: r => by rw [fzs, nowns, nown_fz d, nowns_fz r]; rfl
end

section
variable {T : Tx} {F F' H H' : Hp}

mutual
theorem RO.mono (hF : Same F F') (hH : Same H H') : ∀ {v d A}, RO T F H v d A → RO T F' H' v d A
  | _, _, _, .non => .non
  | _, _, _, .bl _ => .bl _
  | _, _, _, .typ _ => .typ _
  | _, _, _, .exn c h k r => .exn c (hF _ _ h) k (ROs.mono hF hH r)
  | _, _, _, .raw h => .raw (hH _ _ h)
  | _, _, _, .opq _ => .opq _
  | _, _, _, .int _ => .int _
  | _, _, _, .str _ => .str _
  | _, _, _, .ptr _ => .ptr _
  | _, _, _, .cls h => .cls h
  | _, _, _, .scr h => .scr (SqL.same hF h)
  | _, _, _, .lstO h r => .lstO (hH _ _ h) (ROs.mono hF hH r)
  | _, _, _, .lstF m h r => .lstF m (hF _ _ h) (ROs.mono hF hH r)
  | _, _, _, .tup h r => .tup (hF _ _ h) (ROs.mono hF hH r)
  | _, _, _, .dctO h k r => .dctO (hH _ _ h) k (ROs.mono hF hH r)
  | _, _, _, .dctF m h k r => .dctF m (hF _ _ h) k (ROs.mono hF hH r)
  | _, _, _, .dttO h k r => .dttO (hH _ _ h) k (ROs.mono hF hH r)
  | _, _, _, .dttF m h k r => .dttF m (hF _ _ h) k (ROs.mono hF hH r)
  | _, _, _, .insO c h k r => .insO c (hH _ _ h) k (ROs.mono hF hH r)
  | _, _, _, .insF m c h k r => .insF m c (hF _ _ h) k (ROs.mono hF hH r)
theorem ROs.mono (hF : Same F F') (hH : Same H H') : ∀ {v d A}, ROs T F H v d A → ROs T F' H' v d A
  | _, _, _, .nil => .nil
  | _, _, _, .cons h r => .cons (RO.mono hF hH h) (ROs.mono hF hH r)
end

mutual
/-- an owned object is written: what does not own it stays -/
theorem RO.upd {a : Addr} {o : HO} : ∀ {v d A}, RO T F H v d A → a ∉ A → RO T F (upd H a o) v d A
  | _, _, _, .non, _ => .non
  | _, _, _, .bl _, _ => .bl _
  | _, _, _, .typ _, _ => .typ _
  | _, _, _, .exn c h k r, n => .exn c h k (ROs.upd r n)
  | _, _, _, .raw h, n => .raw (by rw [upd_ne (fun e => n (by simp [e]))]; exact h)
  | _, _, _, .opq _, _ => .opq _
  | _, _, _, .int _, _ => .int _
  | _, _, _, .str _, _ => .str _
  | _, _, _, .ptr _, _ => .ptr _
  | _, _, _, .cls h, _ => .cls h
  | _, _, _, .scr h, _ => .scr h
  | _, _, _, .lstO h r, n => .lstO (by rw [upd_ne (fun e => n (by simp [e]))]; exact h) (ROs.upd r fun m => n (List.mem_cons_of_mem _ m))
  | _, _, _, .lstF m h r, n => .lstF m h (ROs.upd r n)
  | _, _, _, .tup h r, n => .tup h (ROs.upd r n)
  | _, _, _, .dctO h k r, n => .dctO (by rw [upd_ne (fun e => n (by simp [e]))]; exact h) k (ROs.upd r fun m => n (List.mem_cons_of_mem _ m))
  | _, _, _, .dctF m h k r, n => .dctF m h k (ROs.upd r n)
  | _, _, _, .dttO h k r, n => .dttO (by rw [upd_ne (fun e => n (by simp [e]))]; exact h) k (ROs.upd r fun m => n (List.mem_cons_of_mem _ m))
  | _, _, _, .dttF m h k r, n => .dttF m h k (ROs.upd r n)
  | _, _, _, .insO c h k r, n => .insO c (by rw [upd_ne (fun e => n (by simp [e]))]; exact h) k (ROs.upd r fun m => n (List.mem_cons_of_mem _ m))
  | _, _, _, .insF m c h k r, n => .insF m c h k (ROs.upd r n)
theorem ROs.upd {a : Addr} {o : HO} : ∀ {v d A}, ROs T F H v d A → a ∉ A → ROs T F (upd H a o) v d A
  | _, _, _, .nil, _ => .nil
  | _, _, _, .cons h r, n => .cons (RO.upd h fun m => n (List.mem_append_left _ m)) (ROs.upd r fun m => n (List.mem_append_right _ m))
end

mutual
/-- what is owned stands -/
theorem RO.live {b : Addr} : ∀ {v d A}, RO T F H v d A → b ∈ A → ∃ o, H b = some o
  | _, _, _, .non, m => nomatch m
  | _, _, _, .bl _, m => nomatch m
  | _, _, _, .typ _, m => nomatch m
  | _, _, _, .exn _ _ _ _, m => nomatch m
  | _, _, _, .raw h, m => ⟨_, by rw [List.mem_singleton.mp m]; exact h⟩
  | _, _, _, .opq _, m => nomatch m
  | _, _, _, .int _, m => nomatch m
  | _, _, _, .str _, m => nomatch m
  | _, _, _, .ptr _, m => nomatch m
  | _, _, _, .cls _, m => nomatch m
  | _, _, _, .scr _, m => nomatch m
  | _, _, _, .lstO h r, m => (List.mem_cons.mp m).elim (fun e => ⟨_, by rw [e]; exact h⟩) fun m => ROs.live r m
  | _, _, _, .lstF _ _ _, m => nomatch m
  | _, _, _, .tup h r, m => ROs.live r m
  | _, _, _, .dctO h k r, m => (List.mem_cons.mp m).elim (fun e => ⟨_, by rw [e]; exact h⟩) fun m => ROs.live r m
  | _, _, _, .dctF _ _ _ _, m => nomatch m
  | _, _, _, .dttO h k r, m => (List.mem_cons.mp m).elim (fun e => ⟨_, by rw [e]; exact h⟩) fun m => ROs.live r m
  | _, _, _, .dttF _ _ _ _, m => nomatch m
  | _, _, _, .insO c h k r, m => (List.mem_cons.mp m).elim (fun e => ⟨_, by rw [e]; exact h⟩) fun m => ROs.live r m
  | _, _, _, .insF _ _ _ _ _, m => nomatch m
theorem ROs.live {b : Addr} : ∀ {v d A}, ROs T F H v d A → b ∈ A → ∃ o, H b = some o
  | _, _, _, .nil, m => nomatch m
  | _, _, _, .cons h r, m => (List.mem_append.mp m).elim (fun m => RO.live h m) fun m => ROs.live r m
end

theorem app_nil {A B : List Addr} (h : [] = A ++ B) : A = [] ∧ B = [] := List.append_eq_nil_iff.mp h.symm

mutual
/-- what owns nothing leans on the frozen part alone -/
theorem RO.free : ∀ {v d A}, RO T F H v d A → A = [] → RO T F H' v d []
  | _, _, _, .non, _ => .non
  | _, _, _, .bl _, _ => .bl _
  | _, _, _, .typ _, _ => .typ _
  | _, _, _, .exn c h k r, _ => .exn c h k (ROs.free r rfl)
  | _, _, _, .raw _, e => nomatch e
  | _, _, _, .opq _, _ => .opq _
  | _, _, _, .int _, _ => .int _
  | _, _, _, .str _, _ => .str _
  | _, _, _, .ptr _, _ => .ptr _
  | _, _, _, .cls h, _ => .cls h
  | _, _, _, .scr h, _ => .scr h
  | _, _, _, .lstO _ _, e => nomatch e
  | _, _, _, .lstF m h r, _ => .lstF m h (ROs.free r rfl)
  | _, _, _, .tup h r, e => .tup h (ROs.free r e)
  | _, _, _, .dctO _ _ _, e => nomatch e
  | _, _, _, .dctF m h k r, _ => .dctF m h k (ROs.free r rfl)
  | _, _, _, .dttO _ _ _, e => nomatch e
  | _, _, _, .dttF m h k r, _ => .dttF m h k (ROs.free r rfl)
  | _, _, _, .insO _ _ _ _, e => nomatch e
  | _, _, _, .insF m c h k r, _ => .insF m c h k (ROs.free r rfl)
theorem ROs.free : ∀ {v d A}, ROs T F H v d A → A = [] → ROs T F H' v d []
  | _, _, _, .nil, _ => .nil
  | _, _, _, .cons h r, e => .cons (A := []) (B := []) (RO.free h (app_nil e.symm).1) (ROs.free r (app_nil e.symm).2)
end

mutual
/-- the owned objects are the same: it reads as before -/
theorem RO.keep : ∀ {v d A}, RO T F H v d A → (∀ b ∈ A, H' b = H b) → RO T F H' v d A
  | _, _, _, .non, _ => .non
  | _, _, _, .bl _, _ => .bl _
  | _, _, _, .typ _, _ => .typ _
  | _, _, _, .exn c h k r, _ => .exn c h k (ROs.free r rfl)
  | _, _, _, .raw h, n => .raw (by rw [n _ (by simp)]; exact h)
  | _, _, _, .opq _, _ => .opq _
  | _, _, _, .int _, _ => .int _
  | _, _, _, .str _, _ => .str _
  | _, _, _, .ptr _, _ => .ptr _
  | _, _, _, .cls h, _ => .cls h
  | _, _, _, .scr h, _ => .scr h
  | _, _, _, .lstO h r, n => .lstO (by rw [n _ (by simp)]; exact h) (ROs.keep r fun b m => n b (List.mem_cons_of_mem _ m))
  | _, _, _, .lstF m h r, _ => .lstF m h (ROs.free r rfl)
  | _, _, _, .tup h r, n => .tup h (ROs.keep r n)
  | _, _, _, .dctO h k r, n => .dctO (by rw [n _ (by simp)]; exact h) k (ROs.keep r fun b m => n b (List.mem_cons_of_mem _ m))
  | _, _, _, .dctF m h k r, _ => .dctF m h k (ROs.free r rfl)
  | _, _, _, .dttO h k r, n => .dttO (by rw [n _ (by simp)]; exact h) k (ROs.keep r fun b m => n b (List.mem_cons_of_mem _ m))
  | _, _, _, .dttF m h k r, _ => .dttF m h k (ROs.free r rfl)
  | _, _, _, .insO c h k r, n => .insO c (by rw [n _ (by simp)]; exact h) k (ROs.keep r fun b m => n b (List.mem_cons_of_mem _ m))
  | _, _, _, .insF m c h k r, _ => .insF m c h k (ROs.free r rfl)
theorem ROs.keep : ∀ {v d A}, ROs T F H v d A → (∀ b ∈ A, H' b = H b) → ROs T F H' v d A
  | _, _, _, .nil, _ => .nil
  | _, _, _, .cons h r, n => .cons (RO.keep h fun b m => n b (List.mem_append_left _ m)) (ROs.keep r fun b m => n b (List.mem_append_right _ m))
end

mutual
theorem RO.none_own : ∀ {v d A}, RO T F H v d A → nown d = true → A = []
  | _, _, _, .non, _ => rfl
  | _, _, _, .bl _, _ => rfl
  | _, _, _, .typ _, _ => rfl
  | _, _, _, .exn _ _ _ _, _ => rfl
  | _, _, _, .raw _, e => by simp [nown] at e
  | _, _, _, .opq _, _ => rfl
  | _, _, _, .int _, _ => rfl
  | _, _, _, .str _, _ => rfl
  | _, _, _, .ptr _, _ => rfl
  | _, _, _, .cls h, _ => rfl
  | _, _, _, .scr h, _ => rfl
  | _, _, _, .lstF m h r, _ => rfl
  | _, _, _, .lstO h r, e => by simp [nown] at e
  | _, _, _, .tup h r, e => ROs.none_own r (by simpa [nown] using e)
  | _, _, _, .dctF m h k r, _ => rfl
  | _, _, _, .dctO h k r, e => by simp [nown] at e
  | _, _, _, .dttF m h k r, _ => rfl
  | _, _, _, .dttO h k r, e => by simp [nown] at e
  | _, _, _, .insF m c h k r, _ => rfl
  | _, _, _, .insO c h k r, e => by simp [nown] at e
theorem ROs.none_own : ∀ {v d A}, ROs T F H v d A → nowns d = true → A = []
  | _, _, _, .nil, _ => rfl
  | _, _, _, .cons h r, e => by
    simp only [nowns, Bool.and_eq_true] at e
    rw [RO.none_own h e.1, ROs.none_own r e.2]; rfl
end

mutual
/-- freezing: F' has what is owned -/
theorem RO.freeze (hF : Same F F') : ∀ {v d A}, RO T F H v d A → (∀ b ∈ A, F' b = H b) → RO T F' H v (fz d) []
  | _, _, _, .non, _ => .non
  | _, _, _, .bl _, _ => .bl _
  | _, _, _, .typ _, _ => .typ _
  | _, _, _, .exn c h k r, _ => .exn c (hF _ _ h) k (ROs.mono hF (fun _ _ x => x) r)
  | _, _, _, .raw _, _ => .opq _
  | _, _, _, .opq _, _ => .opq _
  | _, _, _, .int _, _ => .int _
  | _, _, _, .str _, _ => .str _
  | _, _, _, .ptr _, _ => .ptr _
  | _, _, _, .cls h, _ => .cls h
  | _, _, _, .scr h, _ => .scr (SqL.same hF h)
  | _, _, _, .lstO (a := a) h r, e => .lstF (m := .frz) trivial (by rw [e a (by simp)]; exact h) (ROs.freeze hF r fun b m => e b (List.mem_cons_of_mem _ m))
  | _, _, _, .lstF (m := .own) f h r, _ => f.elim
  | _, _, _, .lstF (m := .frz) f h r, _ => .lstF f (hF _ _ h) (ROs.mono hF (fun _ _ x => x) r)
  | _, _, _, .lstF (m := .tag _) f h r, _ => .lstF f (hF _ _ h) (ROs.mono hF (fun _ _ x => x) r)
  | _, _, _, .tup h r, e => .tup (hF _ _ h) (ROs.freeze hF r e)
  | _, _, _, .dctO (a := a) h k r, e => .dctF (m := .frz) trivial (by rw [e a (by simp)]; exact h) (by rw [k1 _ fzp_eq]; exact k) (by rw [k2 _ fzp_eq]; exact ROs.freeze hF r fun b m => e b (List.mem_cons_of_mem _ m))
  | _, _, _, .dctF (m := .own) f h k r, _ => f.elim
  | _, _, _, .dctF (m := .frz) f h k r, _ => .dctF f (hF _ _ h) k (ROs.mono hF (fun _ _ x => x) r)
  | _, _, _, .dctF (m := .tag _) f h k r, _ => .dctF f (hF _ _ h) k (ROs.mono hF (fun _ _ x => x) r)
  | _, _, _, .dttO (a := a) h k r, e => .dttF (m := .frz) trivial (by rw [e a (by simp)]; exact h) (by rw [k1 _ fzq_eq]; exact k) (by rw [k2 _ fzq_eq]; exact ROs.freeze hF r fun b m => e b (List.mem_cons_of_mem _ m))
  | _, _, _, .dttF (m := .own) f h k r, _ => f.elim
  | _, _, _, .dttF (m := .frz) f h k r, _ => .dttF f (hF _ _ h) k (ROs.mono hF (fun _ _ x => x) r)
  | _, _, _, .dttF (m := .tag _) f h k r, _ => .dttF f (hF _ _ h) k (ROs.mono hF (fun _ _ x => x) r)
  | _, _, _, .insO (a := a) c h k r, e => .insF (m := .frz) trivial c (by rw [e a (by simp)]; exact h) (by rw [k1 _ fzn_eq]; exact k) (by rw [k2 _ fzn_eq]; exact ROs.freeze hF r fun b m => e b (List.mem_cons_of_mem _ m))
  | _, _, _, .insF (m := .own) f c h k r, _ => f.elim
  | _, _, _, .insF (m := .frz) f c h k r, _ => .insF f c (hF _ _ h) k (ROs.mono hF (fun _ _ x => x) r)
  | _, _, _, .insF (m := .tag _) f c h k r, _ => .insF f c (hF _ _ h) k (ROs.mono hF (fun _ _ x => x) r)
theorem ROs.freeze (hF : Same F F') : ∀ {v d A}, ROs T F H v d A → (∀ b ∈ A, F' b = H b) → ROs T F' H v (fzs d) []
  | _, _, _, .nil, _ => .nil
  | _, _, _, .cons h r, e => .cons (A := []) (B := []) (RO.freeze hF h fun b m => e b (List.mem_append_left _ m)) (ROs.freeze hF r fun b m => e b (List.mem_append_right _ m))
end
end
end Mf
set_option Elab.async false
set_option linter.all false
/-! What stands: resources side by side, slots, the store. -/
namespace Mf
open PySem PySem.Spec PyProof.Rows L2

abbrev Rs := List (V × D)
inductive RL (T : Tx) (F H : Hp) : Rs → List Addr → Prop
  | nil : RL T F H [] []
  | cons {v d A rs B} : RO T F H v d A → RL T F H rs B → RL T F H ((v, d) :: rs) (A ++ B)

section
variable {T : Tx} {F F' H H' : Hp} {rs rs' R R' : Rs} {A B L : List Addr} {a p : Addr} {v : V} {d : D}

theorem RL.mono (hF : Same F F') (hH : Same H H') (h : RL T F H rs A) : RL T F' H' rs A := by
  induction h with
  | nil => exact .nil
  | cons h _ ih => exact .cons (h.mono hF hH) ih
theorem RL.upd {o : HO} (h : RL T F H rs A) : a ∉ A → RL T F (upd H a o) rs A := by
  induction h with
  | nil => exact fun _ => .nil
  | cons h _ ih => exact fun n => .cons (h.upd fun m => n (List.mem_append_left _ m)) (ih fun m => n (List.mem_append_right _ m))
theorem RL.live (h : RL T F H rs A) : a ∈ A → ∃ o, H a = some o := by
  induction h with
  | nil => exact fun m => nomatch m
  | cons h _ ih => exact fun m => (List.mem_append.mp m).elim (fun m => h.live m) ih
theorem RL.app (h : RL T F H rs A) (k : RL T F H rs' B) : RL T F H (rs ++ rs') (A ++ B) := by
  induction h with
  | nil => exact k
  | cons h _ ih => rw [List.append_assoc]; exact .cons h ih
theorem RL.split : ∀ {rs rs' : Rs} {A}, RL T F H (rs ++ rs') A → ∃ A1 A2, A = A1 ++ A2 ∧ RL T F H rs A1 ∧ RL T F H rs' A2
  | [], _, _, h => ⟨[], _, rfl, .nil, h⟩
  | (v, d) :: rs, rs', _, .cons h k => by
    obtain ⟨A1, A2, e, k1, k2⟩ := RL.split (rs := rs) k
    subst e
    exact ⟨_, A2, (List.append_assoc _ _ _).symm, .cons h k1, k2⟩
theorem RL.perm (q : rs.Perm rs') : ∀ {A}, RL T F H rs A → ∃ A', A.Perm A' ∧ RL T F H rs' A' := by
  induction q with
  | nil => exact fun h => ⟨_, .refl _, h⟩
  | cons x _ ih =>
    intro A h
    cases h with
    | cons h k =>
      obtain ⟨A', q', k'⟩ := ih k
      exact ⟨_, q'.append_left _, .cons h k'⟩
  | swap x y l =>
    intro A h
    cases h with
    | cons h k =>
      cases k with
      | cons k l =>
        refine ⟨_, ?_, .cons k (.cons h l)⟩
        rw [← List.append_assoc, ← List.append_assoc]
        exact List.perm_append_comm.append_right _
  | trans _ _ i1 i2 =>
    intro A h
    obtain ⟨A1, q1, h1⟩ := i1 h
    obtain ⟨A2, q2, h2⟩ := i2 h1
    exact ⟨A2, q1.trans q2, h2⟩
theorem RL.of_zip : ∀ {vs : List V} {ds : List D} {A}, ROs T F H vs ds A → vs.length = ds.length ∧ RL T F H (vs.zip ds) A
  | _, _, _, .nil => ⟨rfl, .nil⟩
  | _, _, _, .cons h r => by
    obtain ⟨e, k⟩ := RL.of_zip r
    exact ⟨by rw [List.length_cons, List.length_cons, e], .cons h k⟩
theorem RL.to_zip : ∀ {vs : List V} {ds : List D} {A}, vs.length = ds.length → RL T F H (vs.zip ds) A → ROs T F H vs ds A
  | [], [], _, _, .nil => .nil
  | [], _ :: _, _, e, _ => nomatch e
  | _ :: _, [], _, e, _ => nomatch e
  | _ :: _, _ :: _, _, e, .cons h r => .cons h (RL.to_zip (Nat.succ.inj e) r)

/-- the frozen part F stands in H; the resources rs lie side by side, out of F; at L: owned addresses whose contents are looked at -/
structure Abs (T : Tx) (F H : Hp) (L : List Addr) (rs : Rs) : Prop where
  same : Same F H
  res : ∀ a ∈ L, ∃ o, H a = some o
  own : ∃ A, RL T F H rs A ∧ (L ++ A).Nodup ∧ ∀ a ∈ L ++ A, F a = none

theorem Abs.perm (h : Abs T F H L rs) (q : rs.Perm rs') : Abs T F H L rs' := by
  obtain ⟨A, r, n, f⟩ := h.own
  obtain ⟨A', q', r'⟩ := r.perm q
  refine ⟨h.same, h.res, A', r', (q'.append_left L).nodup n, fun a m => f a ?_⟩
  exact (q'.append_left L).mem_iff.mpr m
theorem Abs.drop (h : Abs T F H L (rs ++ rs')) : Abs T F H L rs' := by
  obtain ⟨A, r, n, f⟩ := h.own
  obtain ⟨A1, A2, rfl, r1, r2⟩ := RL.split r
  refine ⟨h.same, h.res, A2, r2, ?_, fun a m => f a ?_⟩
  · refine List.Nodup.sublist ?_ n
    exact (List.Sublist.refl L).append (List.sublist_append_right A1 A2)
  · rcases List.mem_append.mp m with m | m
    · exact List.mem_append_left _ m
    · exact List.mem_append_right _ (List.mem_append_right _ m)
theorem Abs.tail (h : Abs T F H L ((v, d) :: rs)) : Abs T F H L rs := Abs.drop (rs := [(v, d)]) h
theorem Abs.head (h : Abs T F H L ((v, d) :: rs)) : ∃ A, RO T F H v d A := by
  obtain ⟨A, r, _, _⟩ := h.own
  cases r with
  | cons r _ => exact ⟨_, r⟩
theorem Abs.head0 (h : Abs T F H L ((v, d) :: rs)) (n : nown d = true) : RO T F H v d [] := by
  obtain ⟨A, r⟩ := h.head
  have e := r.none_own n
  subst e
  exact r
/-- the heap grows, the frozen part too, at new places -/
theorem Abs.grow (h : Abs T F H L rs) (hF : Same F F') (hH : Same H H') (hS : Same F' H') (n : ∀ b o, F b = none → F' b = some o → H b = none) : Abs T F' H' L rs := by
  obtain ⟨A, r, nd, f⟩ := h.own
  refine ⟨hS, fun a m => ?_, A, r.mono hF hH, nd, fun a m => ?_⟩
  · obtain ⟨o, e⟩ := h.res a m
    exact ⟨o, hH _ _ e⟩
  · cases e : F' a with
    | none => rfl
    | some o =>
      have q := n a o (f a m) e
      rcases List.mem_append.mp m with m | m
      · obtain ⟨u, z⟩ := h.res a m
        rw [z] at q; cases q
      · obtain ⟨u, z⟩ := r.live m
        rw [z] at q; cases q
theorem Abs.ext (h : Abs T F H L rs) (hH : Same H H') : Abs T F H' L rs :=
  h.grow (Same.refl _) hH (h.same.trans hH) fun b o e1 e2 => by rw [e1] at e2; cases e2
/-- a new resource: what it owns is new -/
theorem Abs.add (h : Abs T F H L rs) (hF : Same F F') (hH : Same H H') (hS : Same F' H') (n : ∀ b o, F b = none → F' b = some o → H b = none)
    (r : RO T F' H' v d B) (nB : B.Nodup) (fB : ∀ b ∈ B, F' b = none ∧ H b = none) : Abs T F' H' L ((v, d) :: rs) := by
  have g := h.grow hF hH hS n
  obtain ⟨A, q, nd, f⟩ := h.own
  refine ⟨hS, g.res, B ++ A, .cons r (q.mono hF hH), ?_, fun a m => ?_⟩
  · have e : (L ++ (B ++ A)).Perm (B ++ (L ++ A)) := by
      rw [← List.append_assoc, ← List.append_assoc]
      exact List.perm_append_comm.append_right _
    refine e.symm.nodup (List.nodup_append.mpr ⟨nB, nd, fun x hx y hy z => ?_⟩)
    subst z
    have q1 := (fB x hx).2
    rcases List.mem_append.mp hy with m | m
    · obtain ⟨u, z⟩ := h.res x m
      rw [z] at q1; cases q1
    · obtain ⟨u, z⟩ := q.live m
      rw [z] at q1; cases q1
  · rcases List.mem_append.mp m with m | m
    · obtain ⟨A2, q2, nd2, f2⟩ := g.own
      exact f2 a (List.mem_append_left _ m)
    · rcases List.mem_append.mp m with m | m
      · exact (fB a m).1
      · cases e : F' a with
        | none => rfl
        | some o =>
          have z := n a o (f a (List.mem_append_right _ m)) e
          obtain ⟨u, z2⟩ := q.live m
          rw [z2] at z; cases z
theorem Abs.push (h : Abs T F H L rs) (r : RO T F H v d []) : Abs T F H L ((v, d) :: rs) :=
  h.add (Same.refl _) (Same.refl _) h.same (fun b o e1 e2 => by rw [e1] at e2; cases e2) r .nil fun _ m => nomatch m
theorem Abs.dup (h : Abs T F H L ((v, d) :: rs)) (n : nown d = true) : Abs T F H L ((v, d) :: (v, d) :: rs) := h.push (h.head0 n)
/-- freezing -/
theorem Abs.freeze (h : Abs T F H L ((v, d) :: rs)) : ∃ F', Same F F' ∧ Abs T F' H L ((v, fz d) :: rs) := by
  obtain ⟨A, r, nd, f⟩ := h.own
  cases r with
  | @cons _ _ A1 _ B r q =>
    have hF : Same F (fun b => if b ∈ A1 then H b else F b) := fun b o e => by
      by_cases m : b ∈ A1
      · have := f b (List.mem_append_right _ (List.mem_append_left _ m))
        rw [this] at e; cases e
      · simp only [if_neg m]; exact e
    refine ⟨_, hF, ⟨fun b o e => ?_, h.res, B, ?_, ?_, fun a m => ?_⟩⟩
    · by_cases m : b ∈ A1
      · simp only [if_pos m] at e; exact e
      · simp only [if_neg m] at e; exact h.same _ _ e
    · exact RL.cons (A := []) (r.freeze hF fun b m => by simp only [if_pos m]) (q.mono hF (Same.refl _))
    · exact List.Nodup.sublist ((List.Sublist.refl L).append (List.sublist_append_right A1 B)) nd
    · have na : a ∉ A1 := fun m1 => by
        rcases List.mem_append.mp m with m | m
        · exact (List.nodup_append.mp nd).2.2 a m a (List.mem_append_left _ m1) rfl
        · exact (List.nodup_append.mp (List.nodup_append.mp nd).2.1).2.2 a m1 a m rfl
      simp only [if_neg na]
      refine f a ?_
      rcases List.mem_append.mp m with m | m
      · exact List.mem_append_left _ m
      · exact List.mem_append_right _ (List.mem_append_right _ m)
/-- freezing, where the address is told -/
theorem Abs.tag (h : Abs T F H L ((.ref a, .lst .frz ds) :: rs)) : Abs T F H L ((.ref a, .lst (.tag a) ds) :: rs) := by
  have r := h.head0 (by simp [nown])
  refine h.tail.push ?_
  cases r with
  | lstF m s r => exact .lstF (m := .tag a) rfl s r
theorem Abs.write {o : HO} (h : Abs T F H (a :: L) rs) : Abs T F (upd H a o) (a :: L) rs := by
  obtain ⟨A, r, nd, f⟩ := h.own
  have fa : F a = none := f a (by simp)
  have na : a ∉ A := fun m => by
    have := List.nodup_cons.mp (show (a :: (L ++ A)).Nodup from nd)
    exact this.1 (List.mem_append_right _ m)
  refine ⟨fun b u e => ?_, fun b m => ?_, A, r.upd na, nd, f⟩
  · rw [upd_ne (fun z => by rw [z, fa] at e; cases e)]
    exact h.same _ _ e
  · by_cases e : b = a
    · rw [e, upd_same]; exact ⟨_, rfl⟩
    · rw [upd_ne e]; exact h.res b m
/-- an owned list is opened, closed -/
theorem Abs.openL (h : Abs T F H L ((.ref a, .lst .own ds) :: rs)) : ∃ vs, H a = some (.lst vs) ∧ vs.length = ds.length ∧ Abs T F H (a :: L) (vs.zip ds ++ rs) := by
  obtain ⟨A, r, nd, f⟩ := h.own
  cases r with
  | @cons _ _ A1 _ B r q =>
    cases r with
    | lstF m s r => exact m.elim
    | @lstO _ vs _ A2 ha r =>
      obtain ⟨e, z⟩ := RL.of_zip r
      have pe : (L ++ (a :: A2 ++ B)).Perm (a :: L ++ (A2 ++ B)) := by
        simpa using (List.perm_middle (a := a) (l₁ := L) (l₂ := A2 ++ B))
      refine ⟨vs, ha, e, h.same, fun b m => ?_, A2 ++ B, z.app q, pe.nodup nd, fun b m => f b (pe.mem_iff.mpr m)⟩
      rcases List.mem_cons.mp m with m | m
      · rw [m]; exact ⟨_, ha⟩
      · exact h.res b m
theorem Abs.closeL {vs : List V} {ds : List D} (h : Abs T F H (a :: L) (vs.zip ds ++ rs)) (ha : H a = some (.lst vs)) (e : vs.length = ds.length) : Abs T F H L ((.ref a, .lst .own ds) :: rs) := by
  obtain ⟨A, r, nd, f⟩ := h.own
  obtain ⟨A2, B, rfl, r1, r2⟩ := RL.split r
  have pe : (a :: L ++ (A2 ++ B)).Perm (L ++ (a :: A2 ++ B)) := by
    simpa using (List.perm_middle (a := a) (l₁ := L) (l₂ := A2 ++ B)).symm
  exact ⟨h.same, fun b m => h.res b (List.mem_cons_of_mem _ m), (a :: A2) ++ B, .cons (.lstO ha (RL.to_zip e r1)) r2, pe.nodup nd, fun b m => f b (pe.mem_iff.mpr m)⟩
/-- the same of a dict (κ: the kind of its keys) -/
theorem Abs.openK (h : Abs T F H L ((.ref a, .dct .own ds) :: rs)) : ∃ kvs, H a = some (.dK kvs) ∧ kvs.map (·.1) = ds.map (·.1) ∧ Abs T F H (a :: L) ((kvs.map (·.2)).zip (ds.map (·.2)) ++ rs) := by
  obtain ⟨A, r, nd, f⟩ := h.own
  cases r with
  | @cons _ _ A1 _ B r q =>
    cases r with
    | dctF m s k r => exact m.elim
    | @dctO _ kvs _ A2 ha k r =>
      obtain ⟨e, z⟩ := RL.of_zip r
      have pe : (L ++ (a :: A2 ++ B)).Perm (a :: L ++ (A2 ++ B)) := by
        simpa using (List.perm_middle (a := a) (l₁ := L) (l₂ := A2 ++ B))
      refine ⟨kvs, ha, k, h.same, fun b m => ?_, A2 ++ B, z.app q, pe.nodup nd, fun b m => f b (pe.mem_iff.mpr m)⟩
      rcases List.mem_cons.mp m with m | m
      · rw [m]; exact ⟨_, ha⟩
      · exact h.res b m
theorem Abs.closeK {kvs : List (Key × V)} {ds : List (Key × D)} (h : Abs T F H (a :: L) ((kvs.map (·.2)).zip (ds.map (·.2)) ++ rs)) (ha : H a = some (.dK kvs)) (e : kvs.map (·.1) = ds.map (·.1)) : Abs T F H L ((.ref a, .dct .own ds) :: rs) := by
  obtain ⟨A, r, nd, f⟩ := h.own
  obtain ⟨A2, B, rfl, r1, r2⟩ := RL.split r
  have pe : (a :: L ++ (A2 ++ B)).Perm (L ++ (a :: A2 ++ B)) := by
    simpa using (List.perm_middle (a := a) (l₁ := L) (l₂ := A2 ++ B)).symm
  have el : (kvs.map (·.2)).length = (ds.map (·.2)).length := by
    have := congrArg List.length e
    simpa using this
  exact ⟨h.same, fun b m => h.res b (List.mem_cons_of_mem _ m), (a :: A2) ++ B, .cons (.dctO ha e (RL.to_zip el r1)) r2, pe.nodup nd, fun b m => f b (pe.mem_iff.mpr m)⟩
theorem Abs.openQ (h : Abs T F H L ((.ref a, .dtt .own ds) :: rs)) : ∃ kvs, H a = some (.dT kvs) ∧ kvs.map (·.1) = ds.map (·.1) ∧ Abs T F H (a :: L) ((kvs.map (·.2)).zip (ds.map (·.2)) ++ rs) := by
  obtain ⟨A, r, nd, f⟩ := h.own
  cases r with
  | @cons _ _ A1 _ B r q =>
    cases r with
    | dttF m s k r => exact m.elim
    | @dttO _ kvs _ A2 ha k r =>
      obtain ⟨e, z⟩ := RL.of_zip r
      have pe : (L ++ (a :: A2 ++ B)).Perm (a :: L ++ (A2 ++ B)) := by
        simpa using (List.perm_middle (a := a) (l₁ := L) (l₂ := A2 ++ B))
      refine ⟨kvs, ha, k, h.same, fun b m => ?_, A2 ++ B, z.app q, pe.nodup nd, fun b m => f b (pe.mem_iff.mpr m)⟩
      rcases List.mem_cons.mp m with m | m
      · rw [m]; exact ⟨_, ha⟩
      · exact h.res b m
theorem Abs.closeQ {kvs : List (List Key × V)} {ds : List (List Key × D)} (h : Abs T F H (a :: L) ((kvs.map (·.2)).zip (ds.map (·.2)) ++ rs)) (ha : H a = some (.dT kvs)) (e : kvs.map (·.1) = ds.map (·.1)) : Abs T F H L ((.ref a, .dtt .own ds) :: rs) := by
  obtain ⟨A, r, nd, f⟩ := h.own
  obtain ⟨A2, B, rfl, r1, r2⟩ := RL.split r
  have pe : (a :: L ++ (A2 ++ B)).Perm (L ++ (a :: A2 ++ B)) := by
    simpa using (List.perm_middle (a := a) (l₁ := L) (l₂ := A2 ++ B)).symm
  have el : (kvs.map (·.2)).length = (ds.map (·.2)).length := by
    have := congrArg List.length e
    simpa using this
  exact ⟨h.same, fun b m => h.res b (List.mem_cons_of_mem _ m), (a :: A2) ++ B, .cons (.dttO ha e (RL.to_zip el r1)) r2, pe.nodup nd, fun b m => f b (pe.mem_iff.mpr m)⟩
/-- an owned instance -/
theorem Abs.openI {c : Str} {fs : List (Str × D)} (h : Abs T F H L ((.ref a, .ins .own c fs) :: rs)) : ∃ C dx gs, T.mg c = some (.ref C) ∧ H a = some (.ins C dx gs) ∧ gs.map (·.1) = fs.map (·.1) ∧ Abs T F H (a :: L) ((gs.map (·.2)).zip (fs.map (·.2)) ++ rs) := by
  obtain ⟨A, r, nd, f⟩ := h.own
  cases r with
  | @cons _ _ A1 _ B r q =>
    cases r with
    | insF m c s k r => exact m.elim
    | @insO _ _ C dx gs _ A2 hc ha k r =>
      obtain ⟨e, z⟩ := RL.of_zip r
      have pe : (L ++ (a :: A2 ++ B)).Perm (a :: L ++ (A2 ++ B)) := by
        simpa using (List.perm_middle (a := a) (l₁ := L) (l₂ := A2 ++ B))
      refine ⟨C, dx, gs, hc, ha, k, h.same, fun b m => ?_, A2 ++ B, z.app q, pe.nodup nd, fun b m => f b (pe.mem_iff.mpr m)⟩
      rcases List.mem_cons.mp m with m | m
      · rw [m]; exact ⟨_, ha⟩
      · exact h.res b m
theorem Abs.closeI {c : Str} {C dx : Addr} {gs : List (Str × V)} {fs : List (Str × D)} (h : Abs T F H (a :: L) ((gs.map (·.2)).zip (fs.map (·.2)) ++ rs)) (hc : T.mg c = some (.ref C)) (ha : H a = some (.ins C dx gs)) (e : gs.map (·.1) = fs.map (·.1)) : Abs T F H L ((.ref a, .ins .own c fs) :: rs) := by
  obtain ⟨A, r, nd, f⟩ := h.own
  obtain ⟨A2, B, rfl, r1, r2⟩ := RL.split r
  have pe : (a :: L ++ (A2 ++ B)).Perm (L ++ (a :: A2 ++ B)) := by
    simpa using (List.perm_middle (a := a) (l₁ := L) (l₂ := A2 ++ B)).symm
  have el : (gs.map (·.2)).length = (fs.map (·.2)).length := by
    have := congrArg List.length e
    simpa using this
  exact ⟨h.same, fun b m => h.res b (List.mem_cons_of_mem _ m), (a :: A2) ++ B, .cons (.insO hc ha e (RL.to_zip el r1)) r2, pe.nodup nd, fun b m => f b (pe.mem_iff.mpr m)⟩
/-- a tuple's items -/
theorem Abs.openT {ds : List D} (h : Abs T F H L ((v, .tup ds) :: rs)) : ∃ x : Addr × List V, (v = .ref x.1 ∧ F x.1 = some (.tup x.2) ∧ x.2.length = ds.length) ∧ Abs T F H L (x.2.zip ds ++ rs) := by
  obtain ⟨A, r, nd, f⟩ := h.own
  cases r with
  | @cons _ _ A1 _ B r q =>
    cases r with
    | @tup a vs _ _ hq r =>
      obtain ⟨e, z⟩ := RL.of_zip r
      exact ⟨(a, vs), ⟨rfl, hq, e⟩, h.same, h.res, A1 ++ B, z.app q, nd, f⟩
/-- a frozen list's items -/
theorem Abs.openF {ds : List D} {m : Mk} (h : Abs T F H L ((v, .lst m ds) :: rs)) (n : nown (.lst m ds) = true) : ∃ x : Addr × List V, (v = .ref x.1 ∧ F x.1 = some (.lst x.2) ∧ x.2.length = ds.length ∧ ROs T F H x.2 ds []) ∧ Abs T F H L rs := by
  have r := h.head0 n
  cases r with
  | @lstF a vs _ _ hm hq r => exact ⟨(a, vs), ⟨rfl, hq, (RL.of_zip r).1, r⟩, h.tail⟩
/-- new objects -/
theorem Abs.newL {vs : List V} {ds : List D} (h : Abs T F H L (vs.zip ds ++ rs)) (e : vs.length = ds.length) (hp : H p = none) : Abs T F (upd H p (.lst vs)) L ((.ref p, .lst .own ds) :: rs) := by
  have hH : Same H (upd H p (.lst vs)) := fun b o z => by rw [upd_ne (ne_of_none z hp)]; exact z
  obtain ⟨A, r, nd, f⟩ := h.own
  have np : p ∉ L ++ A := fun m => by
    rcases List.mem_append.mp m with m | m
    · obtain ⟨u, z⟩ := h.res p m
      rw [z] at hp; cases hp
    · obtain ⟨u, z⟩ := r.live m
      rw [z] at hp; cases hp
  have fp : F p = none := by
    cases q : F p with
    | none => rfl
    | some o => rw [h.same _ _ q] at hp; cases hp
  refine Abs.closeL (vs := vs) ⟨h.same.trans hH, fun b m => ?_, A, r.mono (Same.refl _) hH, List.nodup_cons.mpr ⟨np, nd⟩, fun b m => ?_⟩ upd_same e
  · rcases List.mem_cons.mp m with m | m
    · rw [m, upd_same]; exact ⟨_, rfl⟩
    · obtain ⟨u, z⟩ := h.res b m
      exact ⟨u, hH _ _ z⟩
  · rcases List.mem_cons.mp m with m | m
    · rw [m]; exact fp
    · exact f b m
theorem Abs.newT {vs : List V} {ds : List D} (h : Abs T F H L (vs.zip ds ++ rs)) (e : vs.length = ds.length) (hp : H p = none) : ∃ F', Same F F' ∧ Abs T F' (upd H p (.tup vs)) L ((.ref p, .tup ds) :: rs) := by
  have hH : Same H (upd H p (.tup vs)) := fun b o z => by rw [upd_ne (ne_of_none z hp)]; exact z
  have fp : F p = none := by
    cases q : F p with
    | none => rfl
    | some o => rw [h.same _ _ q] at hp; cases hp
  have hF : Same F (L2.upd F p (.tup vs)) := fun b o z => by rw [upd_ne (ne_of_none z fp)]; exact z
  have hS : Same (L2.upd F p (.tup vs)) (L2.upd H p (.tup vs)) := fun b o z => by
    by_cases q : b = p
    · subst q; rw [upd_same] at z ⊢; exact z
    · rw [upd_ne q] at z ⊢; exact h.same _ _ z
  have g := h.grow hF hH hS fun b o z1 z2 => by
    by_cases q : b = p
    · rw [q]; exact hp
    · rw [upd_ne q, z1] at z2; cases z2
  refine ⟨_, hF, ⟨hS, g.res, ?_⟩⟩
  obtain ⟨A, r, nd, f⟩ := g.own
  obtain ⟨A1, A2, rfl, r1, r2⟩ := RL.split r
  exact ⟨A1 ++ A2, .cons (.tup upd_same (RL.to_zip e r1)) r2, nd, f⟩
end

/-! ### the slots, the store -/
inductive SlotR : L2.St → List (Option D) → Rs → Prop
  | nil : SlotR [] [] []
  | skip {o σ sl rs} : SlotR σ sl rs → SlotR (o :: σ) (none :: sl) rs
  | cons {v d σ sl rs} : SlotR σ sl rs → SlotR (some v :: σ) (some d :: sl) ((v, d) :: rs)

abbrev Sto := List (Addr × D)
structure En where
  sl : List (Option D)
  st : Sto
def stR (st : Sto) : Rs := st.map fun p => (V.ref p.1, p.2)

section
variable {σ σ' : L2.St} {sl : List (Option D)} {rs R R' : Rs} {i : Nat} {v : V} {d : D} {T : Tx} {F F' H H' : Hp} {L L' : List Addr} {e : En} {st : Sto} {a : Addr}

theorem SlotR.len (h : SlotR σ sl rs) : σ.length = sl.length := by
  induction h with
  | nil => rfl
  | skip _ ih => simp [ih]
  | cons _ ih => simp [ih]
theorem SlotR.take (h : SlotR σ sl rs) : ∀ {i : Nat} {d : D}, sl[i]? = some (some d) → ∃ v rs', σ[i]? = some (some v) ∧ rs.Perm ((v, d) :: rs') ∧ SlotR σ (sl.set i none) rs' := by
  induction h with
  | nil => intro i d e; simp at e
  | @skip o σ sl rs _ ih =>
    intro i d e
    cases i with
    | zero => simp at e
    | succ i =>
      obtain ⟨v, rs', e1, q, h'⟩ := ih (i := i) (by simpa using e)
      exact ⟨v, rs', by simpa using e1, q, .skip h'⟩
  | @cons v d σ sl rs h ih =>
    intro i d' e
    cases i with
    | zero =>
      obtain rfl : d = d' := by simpa using e
      exact ⟨v, rs, by simp, .refl _, .skip h⟩
    | succ i =>
      obtain ⟨v', rs', e1, q, h'⟩ := ih (i := i) (by simpa using e)
      exact ⟨v', (v, d) :: rs', by simpa using e1, (q.cons _).trans (.swap ..), .cons h'⟩
theorem SlotR.clear (h : SlotR σ sl rs) : ∀ (i : Nat), ∃ rs0 rs', rs.Perm (rs0 ++ rs') ∧ SlotR σ (sl.set i none) rs' := by
  induction h with
  | nil => intro i; exact ⟨[], [], .refl _, .nil⟩
  | @skip o σ sl rs h ih =>
    intro i
    cases i with
    | zero => exact ⟨[], _, .refl _, .skip h⟩
    | succ i =>
      obtain ⟨r0, rs', q, h'⟩ := ih i
      exact ⟨r0, rs', q, .skip h'⟩
  | @cons v d σ sl rs h ih =>
    intro i
    cases i with
    | zero => exact ⟨[(v, d)], rs, .refl _, .skip h⟩
    | succ i =>
      obtain ⟨r0, rs', q, h'⟩ := ih i
      exact ⟨r0, (v, d) :: rs', (q.cons _).trans List.perm_middle.symm, .cons h'⟩
theorem SlotR.put (h : SlotR σ sl rs) (v : V) (d : D) : ∀ {i : Nat}, i < sl.length → sl[i]? = some none → ∃ rs', rs'.Perm ((v, d) :: rs) ∧ SlotR (σ.set i (some v)) (sl.set i (some d)) rs' := by
  induction h with
  | nil => intro i e; simp at e
  | @skip o σ sl rs h ih =>
    intro i hi e
    cases i with
    | zero => exact ⟨_, .refl _, .cons h⟩
    | succ i =>
      obtain ⟨rs', q, h'⟩ := ih (i := i) (by simpa using hi) (by simpa using e)
      exact ⟨rs', q, .skip h'⟩
  | @cons w x σ sl rs h ih =>
    intro i hi e
    cases i with
    | zero => simp at e
    | succ i =>
      obtain ⟨rs', q, h'⟩ := ih (i := i) (by simpa using hi) (by simpa using e)
      exact ⟨(w, x) :: rs', (q.cons _).trans (.swap ..), .cons h'⟩

/-- the state: slots, store, further resources -/
def StA (T : Tx) (F H : Hp) (σ : L2.St) (e : En) (L : List Addr) (R : Rs) : Prop := ∃ rs, SlotR σ e.sl rs ∧ Abs T F H L (rs ++ (stR e.st ++ R))

theorem StA.same (h : StA T F H σ e L R) : Same F H := let ⟨_, _, h⟩ := h; h.same
theorem StA.len (h : StA T F H σ e L R) : σ.length = e.sl.length := let ⟨_, h, _⟩ := h; h.len
/-- what holds of R beside anything -/
theorem StA.lift (h : StA T F H σ e L R) (k : ∀ Z, Abs T F H L (R ++ Z) → Abs T F' H' L' (R' ++ Z)) : StA T F' H' σ e L' R' := by
  obtain ⟨rs, s, h⟩ := h
  refine ⟨rs, s, ?_⟩
  have q1 : (rs ++ (stR e.st ++ R)).Perm (R ++ (rs ++ stR e.st)) := by rw [← List.append_assoc]; exact List.perm_append_comm
  have q2 : (R' ++ (rs ++ stR e.st)).Perm (rs ++ (stR e.st ++ R')) := by rw [← List.append_assoc rs]; exact List.perm_append_comm
  exact (k _ (h.perm q1)).perm q2
theorem StA.lift2 (h : StA T F H σ e L R) (k : ∀ Z, Abs T F H L (R ++ Z) → ∃ F', Same F F' ∧ Abs T F' H' L' (R' ++ Z)) : ∃ F', Same F F' ∧ StA T F' H' σ e L' R' := by
  obtain ⟨rs, s, h⟩ := h
  have q1 : (rs ++ (stR e.st ++ R)).Perm (R ++ (rs ++ stR e.st)) := by rw [← List.append_assoc]; exact List.perm_append_comm
  have q2 : (R' ++ (rs ++ stR e.st)).Perm (rs ++ (stR e.st ++ R')) := by rw [← List.append_assoc rs]; exact List.perm_append_comm
  obtain ⟨F', hF, k⟩ := k _ (h.perm q1)
  exact ⟨F', hF, rs, s, k.perm q2⟩
theorem StA.liftE {α : Type} {P : α → Prop} {G : α → Rs} {FF HH : α → Hp} {LL : α → List Addr} (h : StA T F H σ e L R) (k : ∀ Z, Abs T F H L (R ++ Z) → ∃ x, P x ∧ Abs T (FF x) (HH x) (LL x) (G x ++ Z)) : ∃ x, P x ∧ StA T (FF x) (HH x) σ e (LL x) (G x) := by
  obtain ⟨rs, s, h⟩ := h
  have q1 : (rs ++ (stR e.st ++ R)).Perm (R ++ (rs ++ stR e.st)) := by rw [← List.append_assoc]; exact List.perm_append_comm
  obtain ⟨x, p, k⟩ := k _ (h.perm q1)
  have q2 : (G x ++ (rs ++ stR e.st)).Perm (rs ++ (stR e.st ++ G x)) := by rw [← List.append_assoc rs]; exact List.perm_append_comm
  exact ⟨x, p, rs, s, k.perm q2⟩
theorem StA.abs (h : StA T F H σ e L R) : Abs T F H L R := by
  obtain ⟨rs, s, h⟩ := h
  rw [← List.append_assoc] at h
  exact h.drop
theorem StA.perm (h : StA T F H σ e L R) (q : R.Perm R') : StA T F H σ e L R' := h.lift fun _ k => k.perm (q.append_right _)
theorem StA.tail (h : StA T F H σ e L ((v, d) :: R)) : StA T F H σ e L R := h.lift fun _ k => k.tail
theorem StA.drop (h : StA T F H σ e L (R' ++ R)) : StA T F H σ e L R := h.lift fun Z k => by rw [List.append_assoc] at k; exact k.drop
theorem StA.push (h : StA T F H σ e L R) (r : RO T F H v d []) : StA T F H σ e L ((v, d) :: R) := h.lift fun _ k => k.push r
theorem StA.freeze (h : StA T F H σ e L ((v, d) :: R)) : ∃ F', Same F F' ∧ StA T F' H σ e L ((v, fz d) :: R) := h.lift2 fun _ k => k.freeze
theorem StA.ext (h : StA T F H σ e L R) (hH : Same H H') : StA T F H' σ e L R := h.lift fun _ k => k.ext hH
theorem StA.grow (h : StA T F H σ e L R) (hF : Same F F') (hH : Same H H') (hS : Same F' H') (n : ∀ b o, F b = none → F' b = some o → H b = none) : StA T F' H' σ e L R := h.lift fun _ k => k.grow hF hH hS n
/-- a slot's content is taken out -/
theorem StA.take (h : StA T F H σ e L R) (hi : e.sl[i]? = some (some d)) : ∃ v, σ[i]? = some (some v) ∧ StA T F H σ { e with sl := e.sl.set i none } L ((v, d) :: R) := by
  obtain ⟨rs, s, h⟩ := h
  obtain ⟨v, rs', e1, q, s'⟩ := s.take hi
  refine ⟨v, e1, rs', s', h.perm ?_⟩
  refine (q.append_right _).trans ?_
  rw [← List.append_assoc, ← List.append_assoc]
  exact List.perm_middle.symm
/-- .. put in -/
theorem StA.put (h : StA T F H σ e L ((v, d) :: R)) (hi : i < e.sl.length) : StA T F H (σ.set i (some v)) { e with sl := e.sl.set i (some d) } L R := by
  obtain ⟨rs, s, h⟩ := h
  obtain ⟨r0, rs1, q0, s1⟩ := s.clear i
  obtain ⟨rs2, q2, s2⟩ := s1.put v d (i := i) (by simpa using hi) (by rw [List.getElem?_set_self hi])
  rw [List.set_set] at s2
  refine ⟨rs2, s2, ?_⟩
  have q3 : (rs ++ (stR e.st ++ (v, d) :: R)).Perm (r0 ++ (rs2 ++ (stR e.st ++ R))) := by
    refine (q0.append_right _).trans ?_
    rw [List.append_assoc]
    refine List.Perm.append_left r0 ?_
    refine List.Perm.trans ?_ (q2.symm.append_right _)
    rw [← List.append_assoc, ← List.append_assoc]
    exact List.perm_middle
  exact (h.perm q3).drop
theorem set_self {α : Type} : ∀ {l : List (Option α)} {i : Nat} {x : α}, l[i]? = some (some x) → l.set i (some x) = l
  | [], i, x, h => by simp at h
  | y :: l, 0, x, h => by simp at h; simp [h]
  | y :: l, i + 1, x, h => by
    have := set_self (l := l) (i := i) (x := x) (by simpa using h)
    simp [this]
/-- a slot's content is changed where it stands -/
theorem StA.back (h : StA T F H σ { e with sl := e.sl.set i none } L ((v, d) :: R)) (hi : i < e.sl.length) (hv : σ[i]? = some (some v)) : StA T F H σ { e with sl := e.sl.set i (some d) } L R := by
  have q := StA.put (i := i) h (by simpa using hi)
  rw [set_self hv] at q
  simpa [List.set_set] using q
/-- a slot is forgotten -/
theorem StA.forget (h : StA T F H σ e L R) (i : Nat) : StA T F H σ { e with sl := e.sl.set i none } L R := by
  obtain ⟨rs, s, h⟩ := h
  obtain ⟨r0, rs1, q0, s1⟩ := s.clear i
  refine ⟨rs1, s1, ?_⟩
  have q3 : (rs ++ (stR e.st ++ R)).Perm (r0 ++ (rs1 ++ (stR e.st ++ R))) := by
    rw [← List.append_assoc r0]
    exact q0.append_right _
  exact (h.perm q3).drop
/-- a slot's content, frozen, stands once more -/
theorem StA.read (h : StA T F H σ e L R) (hi : e.sl[i]? = some (some d)) : ∃ v F', σ[i]? = some (some v) ∧ Same F F' ∧ StA T F' H σ { e with sl := e.sl.set i (some (fz d)) } L ((v, fz d) :: R) := by
  obtain ⟨v, e1, h1⟩ := h.take hi
  obtain ⟨F', hF, h2⟩ := h1.freeze
  have hl : i < e.sl.length := (List.getElem?_eq_some_iff.mp hi).1
  refine ⟨v, F', e1, hF, StA.back ?_ hl e1⟩
  refine h2.lift (R' := (v, fz d) :: (v, fz d) :: R) fun Z k => ?_
  exact k.dup (nown_fz d)
end
end Mf
set_option Elab.async false
set_option linter.all false
/-! The judgements: what an expression, a test, a statement does to slots and store, with no heap in sight. -/
namespace Mf
open PySem PySem.Spec PyProof.Rows L2

/-- an exception of an own class: the class, its attributes -/
structure DX where
  c : Str
  fs : List (Str × D)
def RX (T : Tx) (F : Hp) (cls : Value) (dd : Option Addr) (x : DX) : Prop :=
  ∃ C a vs, T.mg x.c = some (.ref C) ∧ cls = .ref C ∧ dd = some a ∧ F a = some (.xd vs) ∧ vs.map (·.1) = x.fs.map (·.1) ∧ ROs T F F (vs.map (·.2)) (x.fs.map (·.2)) []
theorem RX.mono {T : Tx} {F F' : Hp} {cls : Value} {dd : Option Addr} {x : DX} (h : RX T F cls dd x) (hF : Same F F') : RX T F' cls dd x := by
  obtain ⟨C, a, vs, h1, h2, h3, h4, h5, h6⟩ := h
  exact ⟨C, a, vs, h1, h2, h3, hF _ _ h4, h5, h6.mono hF hF⟩

def tx (X : Cx) : Tx := ⟨X.K, X.mg⟩

abbrev EK := DX → En → Prop
/-- expressions: the state, what follows, what an exception meets -/
abbrev DF := En → (D → En → Prop) → EK → Prop
/-- expressions that change nothing -/
abbrev PF := En → (D → Prop) → Prop
abbrev BF := En → (Bool → En → Prop) → EK → Prop
abbrev AF := En → (List D → En → Prop) → EK → Prop
abbrev PAF := En → (List D → Prop) → Prop

/-- the heap grows by new objects -/
structure Gr (F H F' H' : Hp) : Prop where
  f : Same F F'
  h : Same H H'
  s : Same F' H'
  n : ∀ b o, F b = none → F' b = some o → H b = none
theorem Gr.refl {F H : Hp} (s : Same F H) : Gr F H F H := ⟨Same.refl _, Same.refl _, s, fun b o e1 e2 => by rw [e1] at e2; cases e2⟩
theorem Gr.trans {F H F' H' F'' H'' : Hp} (a : Gr F H F' H') (b : Gr F' H' F'' H'') : Gr F H F'' H'' := by
  refine ⟨a.f.trans b.f, a.h.trans b.h, b.s, fun c o e1 e2 => ?_⟩
  cases q : F' c with
  | none =>
    have := b.n c o q e2
    exact Same.free a.h this
  | some o' => exact a.n c o' e1 q
theorem Gr.ext {F H H' : Hp} (s : Same F H) (h : Same H H') : Gr F H F H' := ⟨Same.refl _, h, s.trans h, fun b o e1 e2 => by rw [e1] at e2; cases e2⟩
theorem same_new {H : Hp} {p : Addr} {o : HO} (hp : H p = none) : Same H (upd H p o) := fun b u z => by rw [upd_ne (ne_of_none z hp)]; exact z
theorem Gr.new {F H : Hp} (s : Same F H) {p : Addr} {o : HO} (hp : H p = none) : Gr F H F (upd H p o) := Gr.ext s (same_new hp)
theorem Gr.newF {F H : Hp} (s : Same F H) {p : Addr} {o : HO} (hp : H p = none) : Gr F H (upd F p o) (upd H p o) := by
  have fp : F p = none := Same.free s hp
  refine ⟨same_new fp, same_new hp, fun b u z => ?_, fun b u e1 e2 => ?_⟩
  · by_cases q : b = p
    · subst q; rw [upd_same] at z ⊢; exact z
    · rw [upd_ne q] at z ⊢; exact s _ _ z
  · by_cases q : b = p
    · rw [q]; exact hp
    · rw [upd_ne q, e1] at e2; cases e2

section
variable {X : Cx} {W : WX}

/-- what is wished of an exception -/
def ExK (X : Cx) (W : WX) (F : Hp) (R : Rs) (E : EK) : Prop :=
  ∀ cls dd x σ e H' F', Same F F' → StA (tx X) F' H' σ e [] R → RX (tx X) F' cls dd x → E x e → W cls dd σ H'
theorem ExK.mono {F F' : Hp} {R : Rs} {E : EK} (h : ExK X W F R E) (hF : Same F F') : ExK X W F' R E := fun cls dd x σ e H' F'' s => h cls dd x σ e H' F'' (hF.trans s)
theorem ExK.more {F : Hp} {R R' : Rs} {E : EK} (h : ExK X W F R E) : ExK X W F (R' ++ R) E := fun cls dd x σ e H' F'' s st => h cls dd x σ e H' F'' s st.drop
theorem ExK.cons {F : Hp} {R : Rs} {r : V × D} {E : EK} (h : ExK X W F R E) : ExK X W F (r :: R) E := fun cls dd x σ e H' F'' s st => h cls dd x σ e H' F'' s st.tail

/-- an expression -/
structure DE (X : Cx) (W : WX) (e : Expr) (f : DF) : Prop where
  ex : ∃ t : TE, PE X e t ∧ ∀ (σ : L2.St) (H : Hp) (env : En) (F : Hp) (R : Rs) (Q : D → En → Prop) (E : EK) (Q' : VK), StA (tx X) F H σ env [] R → f env Q E →
    (∀ v d env' H' F', Same F F' → StA (tx X) F' H' σ env' [] ((v, d) :: R) → Q d env' → Q' v H') → ExK X W F R E → t σ H Q'
/-- an expression that changes nothing: what it tells may be looked at -/
structure DP (X : Cx) (e : Expr) (g : PF) : Prop where
  ex : ∃ t : TE, PE X e t ∧ ∀ (σ : L2.St) (H : Hp) (env : En) (F : Hp) (R : Rs) (Q : D → Prop) (Q' : VK), StA (tx X) F H σ env [] R → g env Q →
    (∀ v d A H' F', Gr F H F' H' → RO (tx X) F' H' v d A → Q d → Q' v H') → t σ H Q'
/-- a test -/
structure DT (X : Cx) (W : WX) (e : Expr) (f : BF) : Prop where
  ex : ∃ t : TT, PT X e t ∧ ∀ (σ : L2.St) (H : Hp) (env : En) (F : Hp) (R : Rs) (Q : Bool → En → Prop) (E : EK) (Q' : Bool → Hp → Prop), StA (tx X) F H σ env [] R → f env Q E →
    (∀ b env' H' F', Same F F' → StA (tx X) F' H' σ env' [] R → Q b env' → Q' b H') → ExK X W F R E → t σ H Q'
structure DW (X : Cx) (W : WX) (e : Expr) (f : BF) : Prop where
  ex : ∃ t : TT, PW X e t ∧ ∀ (σ : L2.St) (H : Hp) (env : En) (F : Hp) (R : Rs) (Q : Bool → En → Prop) (E : EK) (Q' : Bool → Hp → Prop), StA (tx X) F H σ env [] R → f env Q E →
    (∀ b env' H' F', Same F F' → StA (tx X) F' H' σ env' [] R → Q b env' → Q' b H') → ExK X W F R E → t σ H Q'
/-- arguments -/
structure DA (X : Cx) (W : WX) (es : List Expr) (f : AF) : Prop where
  ex : ∃ t : TA, PA X es t ∧ ∀ (σ : L2.St) (H : Hp) (env : En) (F : Hp) (R : Rs) (Q : List D → En → Prop) (E : EK) (Q' : List V → Hp → Prop), StA (tx X) F H σ env [] R → f env Q E →
    (∀ vs ds env' H' F', Same F F' → vs.length = ds.length → StA (tx X) F' H' σ env' [] (vs.zip ds ++ R) → Q ds env' → Q' vs H') → ExK X W F R E → t σ H Q'
structure DPA (X : Cx) (es : List Expr) (g : PAF) : Prop where
  ex : ∃ t : TA, PA X es t ∧ ∀ (σ : L2.St) (H : Hp) (env : En) (F : Hp) (R : Rs) (Q : List D → Prop) (Q' : List V → Hp → Prop), StA (tx X) F H σ env [] R → g env Q →
    (∀ vs ds A H' F', Gr F H F' H' → ROs (tx X) F' H' vs ds A → Q ds → Q' vs H') → t σ H Q'

theorem StA.gr {T : Tx} {F H F' H' : Hp} {σ : L2.St} {e : En} {L : List Addr} {R : Rs} (h : StA T F H σ e L R) (g : Gr F H F' H') : StA T F' H' σ e L R := h.grow g.f g.h g.s g.n

/-! ### from one to the other -/
def pe (g : PF) : DF := fun env Q _ => g env fun d => nown d = true ∧ Q d env
theorem de_p {e : Expr} {g : PF} (h : DP X e g) : DE X W e (pe g) := by
  obtain ⟨t, ht, k⟩ := h.ex
  refine ⟨t, ht, fun σ H env F R Q E Q' s f q _ => ?_⟩
  refine k σ H env F R _ Q' s f fun v d A H' F' g' r ⟨n, z⟩ => ?_
  have e := r.none_own n
  subst e
  exact q v d env H' F' g'.f ((s.gr g').push r) z

/-! ### names, constants -/
def getS (env : En) (i : Nat) : Option D := match env.sl[i]? with
  | some (some d) => some d
  | _ => none
def setS (env : En) (i : Nat) (d : D) : En := { env with sl := env.sl.set i (some d) }
def clrS (env : En) (i : Nat) : En := { env with sl := env.sl.set i none }
theorem getS_some {env : En} {i : Nat} {d : D} (h : getS env i = some d) : env.sl[i]? = some (some d) := by
  unfold getS at h
  split at h
  · rename_i d' e
    cases h
    exact e
  · cases h
def onS (o : Option D) (k : D → Prop) : Prop := match o with
  | some d => k d
  | none => False
theorem onS_some {o : Option D} {k : D → Prop} (h : onS o k) : ∃ d, o = some d ∧ k d := by
  cases o with
  | none => exact h.elim
  | some d => exact ⟨d, rfl, h⟩

def pVar (i : Nat) : PF := fun env Q => onS (getS env i) Q
theorem dp_var {i : Nat} {x : Str} {pos : Pos} (hN : X.N[i]? = some x := by rfl) (hv : Vis X.env.scope x := by first | exact Or.inl rfl | exact Or.inr (Or.inl rfl) | exact Or.inr (Or.inr rfl))
    (hd : (x == ("__debug__" : Str)) = false := by decide) (hcd : (x == ("__classdict__" : Str)) = false := by decide) : DP X (.Name x pos) (pVar i) := by
  refine ⟨tVar i, pe_var hN hv hd hcd, fun σ H env F R Q Q' s f q => ?_⟩
  obtain ⟨d, e, z⟩ := onS_some f
  obtain ⟨v, e1, s1⟩ := s.take (getS_some e)
  obtain ⟨A, r⟩ := s1.abs.head
  exact ⟨v, e1, q v d A H F (Gr.refl s.same) r z⟩
/-- frozen, and read -/
def dVar (i : Nat) : DF := fun env Q _ => onS (getS env i) fun d => Q (fz d) (setS env i (fz d))
theorem de_var {i : Nat} {x : Str} {pos : Pos} (hN : X.N[i]? = some x := by rfl) (hv : Vis X.env.scope x := by first | exact Or.inl rfl | exact Or.inr (Or.inl rfl) | exact Or.inr (Or.inr rfl))
    (hd : (x == ("__debug__" : Str)) = false := by decide) (hcd : (x == ("__classdict__" : Str)) = false := by decide) : DE X W (.Name x pos) (dVar i) := by
  refine ⟨tVar i, pe_var hN hv hd hcd, fun σ H env F R Q E Q' s f q _ => ?_⟩
  obtain ⟨d, e, z⟩ := onS_some f
  obtain ⟨v, F', e1, hF, s1⟩ := s.read (getS_some e)
  exact ⟨v, e1, q v _ _ H F' hF s1 z⟩
/-- taken out (the name isn't read again) -/
def dMove (i : Nat) : DF := fun env Q _ => onS (getS env i) fun d => Q d (clrS env i)
theorem de_move {i : Nat} {x : Str} {pos : Pos} (hN : X.N[i]? = some x := by rfl) (hv : Vis X.env.scope x := by first | exact Or.inl rfl | exact Or.inr (Or.inl rfl) | exact Or.inr (Or.inr rfl))
    (hd : (x == ("__debug__" : Str)) = false := by decide) (hcd : (x == ("__classdict__" : Str)) = false := by decide) : DE X W (.Name x pos) (dMove i) := by
  refine ⟨tVar i, pe_var hN hv hd hcd, fun σ H env F R Q E Q' s f q _ => ?_⟩
  obtain ⟨d, e, z⟩ := onS_some f
  obtain ⟨v, e1, s1⟩ := s.take (getS_some e)
  exact ⟨v, e1, q v _ _ H F (Same.refl _) s1 z⟩
def pC (d : D) : PF := fun _ Q => Q d
theorem dp_c {e : Expr} {v : V} {d : D} (h : PE X e (tC v)) (r : ∀ F H, RO (tx X) F H v d []) : DP X e (pC d) :=
  ⟨tC v, h, fun σ H env F R Q Q' s f q => q v d [] H F (Gr.refl s.same) (r F H) f⟩
theorem dp_int {i j pos} : DP X (.Constant (.int i) j pos) (pC (.int i)) := dp_c pe_int fun _ _ => .int i
theorem dp_bl {i j pos} : DP X (.Constant (.bool i) j pos) (pC (.bl i)) := dp_c pe_bl fun _ _ => .bl i
theorem dp_str {i j pos} : DP X (.Constant (.str i) j pos) (pC (.str i)) := dp_c pe_str fun _ _ => .str i
theorem dp_non {j pos} : DP X (.Constant .none j pos) (pC .non) := dp_c pe_non fun _ _ => .non
/-- a module's whole number -/
theorem dp_gint {x : Str} {i : Int} {pos : Pos} (hg : Gl X x) (hm : ∃ t, X.mg x = some (.int i t)) (hd : (x == ("__debug__" : Str)) = false := by decide) : DP X (.Name x pos) (pC (.int i)) := by
  obtain ⟨t, hm⟩ := hm
  exact dp_c (pe_glob (v := .int i) hg hm ⟨t, rfl⟩ hd) fun _ _ => .int i

/-! ### operations on values -/
abbrev OpF := D → D → (D → Prop) → Prop
/-- what is told of a result: what it owns is new -/
abbrev New (X : Cx) (F H : Hp) (Q : D → Prop) (Q' : VK) : Prop := ∀ z d A H' F', Gr F H F' H' → RO (tx X) F' H' z d A → A.Nodup → (∀ a ∈ A, F' a = none ∧ H a = none) → Q d → Q' z H'
structure OpD (X : Cx) (f : Value → Value → Sem Value) (r : OpF) : Prop where
  ex : ∃ r' : R2, OpR X f r' ∧ ∀ F H x y dx dy A B Q Q', Same F H → RO (tx X) F H x dx A → RO (tx X) F H y dy B → r dx dy Q → New X F H Q Q' → r' x y H Q'
structure UnD (X : Cx) (f : Value → Sem Value) (r : D → (D → Prop) → Prop) : Prop where
  ex : ∃ r' : V → Hp → VK → Prop, UnR X f r' ∧ ∀ F H x dx A Q Q', Same F H → RO (tx X) F H x dx A → r dx Q → New X F H Q Q' → r' x H Q'

variable {a b c : Expr} {fa fb fc : DF} {ga gb gc : PF} {r r2 : OpF} {pos : Pos}
/-- a new thing beside the rest -/
theorem StA.add {T : Tx} {F H F' H' : Hp} {σ : L2.St} {e : En} {R : Rs} {v : V} {d : D} {B : List Addr} (h : StA T F H σ e [] R) (g : Gr F H F' H') (rr : RO T F' H' v d B) (nB : B.Nodup) (fB : ∀ b ∈ B, F' b = none ∧ H b = none) :
    StA T F' H' σ e [] ((v, d) :: R) := h.lift fun _ k => k.add g.f g.h g.s g.n rr nB fB

def dOp (r : OpF) (fa fb : DF) : DF := fun env Q E => fa env (fun x env1 => fb env1 (fun y env2 => r x y fun z => Q z env2) E) E
def pOp (r : OpF) (ga gb : PF) : PF := fun env Q => ga env fun x => gb env fun y => r x y Q
/-- two operands, the rest by the rule -/
theorem two {ta tb : TE} {r' : R2} (ka : ∀ (σ : L2.St) (H : Hp) (env : En) (F : Hp) (R : Rs) (Q : D → En → Prop) (E : EK) (Q' : VK), StA (tx X) F H σ env [] R → fa env Q E →
      (∀ v d env' H' F', Same F F' → StA (tx X) F' H' σ env' [] ((v, d) :: R) → Q d env' → Q' v H') → ExK X W F R E → ta σ H Q')
    (kb : ∀ (σ : L2.St) (H : Hp) (env : En) (F : Hp) (R : Rs) (Q : D → En → Prop) (E : EK) (Q' : VK), StA (tx X) F H σ env [] R → fb env Q E →
      (∀ v d env' H' F', Same F F' → StA (tx X) F' H' σ env' [] ((v, d) :: R) → Q d env' → Q' v H') → ExK X W F R E → tb σ H Q')
    (kr : ∀ F H x y dx dy A B Q Q', Same F H → RO (tx X) F H x dx A → RO (tx X) F H y dy B → r dx dy Q → New X F H Q Q' → r' x y H Q')
    (σ : L2.St) (H : Hp) (env : En) (F : Hp) (R : Rs) (Q : D → En → Prop) (E : EK) (Q' : VK) (s : StA (tx X) F H σ env [] R) (f : dOp r fa fb env Q E)
    (q : ∀ v d env' H' F', Same F F' → StA (tx X) F' H' σ env' [] ((v, d) :: R) → Q d env' → Q' v H') (x : ExK X W F R E) : ta σ H fun u H1 => tb σ H1 fun w H2 => r' u w H2 Q' := by
  refine ka σ H env F R _ E _ s f (fun u du e1 H1 F1 s1 st1 f1 => ?_) x
  refine kb σ H1 e1 F1 _ _ E _ st1 f1 (fun w dw e2 H2 F2 s2 st2 f2 => ?_) (x.mono s1).cons
  obtain ⟨B, rb⟩ := st2.abs.head
  obtain ⟨A, ra⟩ := st2.tail.abs.head
  refine kr F2 H2 u w du dw A B _ Q' st2.same ra rb f2 fun z d A' H' F' g' rz nz fz qz => ?_
  exact q z d e2 H' F' ((s1.trans s2).trans g'.f) (st2.tail.tail.add g' rz nz fz) qz
theorem two_p {ta tb : TE} {r' : R2} (ka : ∀ (σ : L2.St) (H : Hp) (env : En) (F : Hp) (R : Rs) (Q : D → Prop) (Q' : VK), StA (tx X) F H σ env [] R → ga env Q →
      (∀ v d A H' F', Gr F H F' H' → RO (tx X) F' H' v d A → Q d → Q' v H') → ta σ H Q')
    (kb : ∀ (σ : L2.St) (H : Hp) (env : En) (F : Hp) (R : Rs) (Q : D → Prop) (Q' : VK), StA (tx X) F H σ env [] R → gb env Q →
      (∀ v d A H' F', Gr F H F' H' → RO (tx X) F' H' v d A → Q d → Q' v H') → tb σ H Q')
    (kr : ∀ F H x y dx dy A B Q Q', Same F H → RO (tx X) F H x dx A → RO (tx X) F H y dy B → r dx dy Q → New X F H Q Q' → r' x y H Q')
    (σ : L2.St) (H : Hp) (env : En) (F : Hp) (R : Rs) (Q : D → Prop) (Q' : VK) (s : StA (tx X) F H σ env [] R) (f : pOp r ga gb env Q)
    (q : ∀ v d A H' F', Gr F H F' H' → RO (tx X) F' H' v d A → Q d → Q' v H') : ta σ H fun u H1 => tb σ H1 fun w H2 => r' u w H2 Q' := by
  refine ka σ H env F R _ _ s f fun u du A H1 F1 g1 ra f1 => ?_
  refine kb σ H1 env F1 R _ _ (s.gr g1) f1 fun w dw B H2 F2 g2 rb f2 => ?_
  refine kr F2 H2 u w du dw A B _ Q' g2.s (ra.mono g2.f g2.h) rb f2 fun z d A' H' F' g' rz nz fz qz => ?_
  exact q z d A' H' F' ((g1.trans g2).trans g') rz qz
theorem de_op {op : Operator} (ho : OpD X (binaryOp op) r) (ha : DE X W a fa) (hb : DE X W b fb) : DE X W (.BinOp a op b pos) (dOp r fa fb) := by
  obtain ⟨r', o, kr⟩ := ho.ex
  obtain ⟨ta, pa, ka⟩ := ha.ex
  obtain ⟨tb, pb, kb⟩ := hb.ex
  exact ⟨_, pe_op o pa pb, two ka kb kr⟩
theorem dp_op {op : Operator} (ho : OpD X (binaryOp op) r) (ha : DP X a ga) (hb : DP X b gb) : DP X (.BinOp a op b pos) (pOp r ga gb) := by
  obtain ⟨r', o, kr⟩ := ho.ex
  obtain ⟨ta, pa, ka⟩ := ha.ex
  obtain ⟨tb, pb, kb⟩ := hb.ex
  exact ⟨_, pe_op o pa pb, two_p ka kb kr⟩
theorem de_cmp {op : CmpOp} (ho : OpD X (compareOp op) r) (ha : DE X W a fa) (hb : DE X W b fb) (hm : behindInMarks op b = false) : DE X W (.Compare a [op] [b] pos) (dOp r fa fb) := by
  obtain ⟨r', o, kr⟩ := ho.ex
  obtain ⟨ta, pa, ka⟩ := ha.ex
  obtain ⟨tb, pb, kb⟩ := hb.ex
  exact ⟨_, pe_cmpR o pa pb hm, two ka kb kr⟩
theorem dp_cmp {op : CmpOp} (ho : OpD X (compareOp op) r) (ha : DP X a ga) (hb : DP X b gb) (hm : behindInMarks op b = false) : DP X (.Compare a [op] [b] pos) (pOp r ga gb) := by
  obtain ⟨r', o, kr⟩ := ho.ex
  obtain ⟨ta, pa, ka⟩ := ha.ex
  obtain ⟨tb, pb, kb⟩ := hb.ex
  exact ⟨_, pe_cmpR o pa pb hm, two_p ka kb kr⟩
/-- a value's being a bool -/
def onB (d : D) (k : Bool → Prop) : Prop := match d with
  | .bl b => k b
  | _ => False
theorem onB_some {d : D} {k : Bool → Prop} (h : onB d k) : ∃ b, d = .bl b ∧ k b := by
  cases d with
  | bl b => exact ⟨b, rfl, h⟩
  | _ => exact h.elim
theorem RO.bl_inv {T : Tx} {F H : Hp} {v : V} {b : Bool} {A : List Addr} (h : RO T F H v (.bl b) A) : v = .bl b ∧ A = [] := by
  cases h; exact ⟨rfl, rfl⟩
theorem RO.int_inv {T : Tx} {F H : Hp} {v : V} {b : Int} {A : List Addr} (h : RO T F H v (.int b) A) : v = .int b ∧ A = [] := by
  cases h; exact ⟨rfl, rfl⟩
theorem RO.str_inv {T : Tx} {F H : Hp} {v : V} {b : Str} {A : List Addr} (h : RO T F H v (.str b) A) : v = .str b ∧ A = [] := by
  cases h; exact ⟨rfl, rfl⟩
theorem RO.non_inv {T : Tx} {F H : Hp} {v : V} {A : List Addr} (h : RO T F H v .non A) : v = .non ∧ A = [] := by
  cases h; exact ⟨rfl, rfl⟩
/-- chains -/
def dChain (r r2 : OpF) (fa fb fc : DF) : DF := fun env Q E => fa env (fun x env1 => fb env1 (fun y env2 => r x y fun z => onB z fun k => if k = true then fc env2 (fun w env3 => r2 y w fun u => Q u env3) E else Q (.bl false) env2) E) E
def pChain (r r2 : OpF) (ga gb gc : PF) : PF := fun env Q => ga env fun x => gb env fun y => r x y fun z => onB z fun k => if k = true then gc env fun w => r2 y w Q else Q (.bl false)
theorem chain_go {ta tb tc : TE} {r' r2' : R2} (ha : DP X a ga) : True := trivial
theorem dp_chain {op op' : CmpOp} (ho : OpD X (compareOp op) r) (ho' : OpD X (compareOp op') r2) (ha : DP X a ga) (hb : DP X b gb) (hc : DP X c gc)
    (hm : lastMarks [op, op'] [b, c] = false := by with_unfolding_all rfl) : DP X (.Compare a [op, op'] [b, c] pos) (pChain r r2 ga gb gc) := by
  obtain ⟨r', o, kr⟩ := ho.ex
  obtain ⟨r2', o', kr2⟩ := ho'.ex
  obtain ⟨ta, pa, ka⟩ := ha.ex
  obtain ⟨tb, pb, kb⟩ := hb.ex
  obtain ⟨tc, pc, kc⟩ := hc.ex
  refine ⟨_, pe_chain o o' pa pb pc hm, fun σ H env F R Q Q' s f q => ?_⟩
  refine ka σ H env F R _ _ s f fun u du A H1 F1 g1 ra f1 => ?_
  refine kb σ H1 env F1 R _ _ (s.gr g1) f1 fun w dw B H2 F2 g2 rb f2 => ?_
  refine kr F2 H2 u w du dw A B _ _ g2.s (ra.mono g2.f g2.h) rb f2 fun z d A' H3 F3 g3 rz nz fz qz => ?_
  obtain ⟨k, rfl, qz⟩ := onB_some qz
  obtain ⟨rfl, rfl⟩ := rz.bl_inv
  refine ⟨k, rfl, ?_⟩
  have s3 := s.gr ((g1.trans g2).trans g3)
  cases k with
  | false => exact q _ _ _ H3 F3 ((g1.trans g2).trans g3) rz qz
  | true =>
    refine kc σ H3 env F3 R _ _ s3 qz fun w' dw' C H4 F4 g4 rc f4 => ?_
    refine kr2 F4 H4 w w' dw dw' B C _ Q' g4.s (rb.mono (g3.trans g4).f (g3.trans g4).h) rc f4 fun z d A' H' F' g' rz nz fz qz => ?_
    exact q z d A' H' F' (((g1.trans g2).trans g3).trans (g4.trans g')) rz qz
theorem de_chain {op op' : CmpOp} (ho : OpD X (compareOp op) r) (ho' : OpD X (compareOp op') r2) (ha : DE X W a fa) (hb : DE X W b fb) (hc : DE X W c fc)
    (hm : lastMarks [op, op'] [b, c] = false := by with_unfolding_all rfl) : DE X W (.Compare a [op, op'] [b, c] pos) (dChain r r2 fa fb fc) := by
  obtain ⟨r', o, kr⟩ := ho.ex
  obtain ⟨r2', o', kr2⟩ := ho'.ex
  obtain ⟨ta, pa, ka⟩ := ha.ex
  obtain ⟨tb, pb, kb⟩ := hb.ex
  obtain ⟨tc, pc, kc⟩ := hc.ex
  refine ⟨_, pe_chain o o' pa pb pc hm, fun σ H env F R Q E Q' s f q x => ?_⟩
  refine ka σ H env F R _ E _ s f (fun u du e1 H1 F1 s1 st1 f1 => ?_) x
  refine kb σ H1 e1 F1 _ _ E _ st1 f1 (fun w dw e2 H2 F2 s2 st2 f2 => ?_) (x.mono s1).cons
  obtain ⟨B, rb⟩ := st2.abs.head
  obtain ⟨A, ra⟩ := st2.tail.abs.head
  refine kr F2 H2 u w du dw A B _ _ st2.same ra rb f2 fun z d A' H3 F3 g3 rz nz fz qz => ?_
  obtain ⟨k, rfl, qz⟩ := onB_some qz
  obtain ⟨rfl, rfl⟩ := rz.bl_inv
  refine ⟨k, rfl, ?_⟩
  have st3 := st2.gr g3
  have ss : Same F F3 := (s1.trans s2).trans g3.f
  cases k with
  | false => exact q _ _ e2 H3 F3 ss (st3.tail.tail.push rz) qz
  | true =>
    refine kc σ H3 e2 F3 _ _ E _ st3 qz (fun w' dw' e4 H4 F4 s4 st4 f4 => ?_) (x.mono ss).cons.cons
    obtain ⟨C, rc⟩ := st4.abs.head
    obtain ⟨B', rb'⟩ := st4.tail.abs.head
    refine kr2 F4 H4 w w' dw dw' B' C _ Q' st4.same rb' rc f4 fun z d A' H' F' g' rz nz fz qz => ?_
    exact q z d e4 H' F' ((ss.trans s4).trans g'.f) (st4.tail.tail.tail.add g' rz nz fz) qz

def dUn (r : D → (D → Prop) → Prop) (fa : DF) : DF := fun env Q E => fa env (fun x env1 => r x fun z => Q z env1) E
def pUn (r : D → (D → Prop) → Prop) (ga : PF) : PF := fun env Q => ga env fun x => r x Q
theorem de_un {op : UnaryOp} {r : D → (D → Prop) → Prop} (ho : UnD X (unaryOp op) r) (ha : DE X W a fa) : DE X W (.UnaryOp op a pos) (dUn r fa) := by
  obtain ⟨r', o, kr⟩ := ho.ex
  obtain ⟨ta, pa, ka⟩ := ha.ex
  refine ⟨_, pe_un o pa, fun σ H env F R Q E Q' s f q x => ?_⟩
  refine ka σ H env F R _ E _ s f (fun u du e1 H1 F1 s1 st1 f1 => ?_) x
  obtain ⟨A, ra⟩ := st1.abs.head
  refine kr F1 H1 u du A _ Q' st1.same ra f1 fun z d A' H' F' g' rz nz fz qz => ?_
  exact q z d e1 H' F' (s1.trans g'.f) (st1.tail.add g' rz nz fz) qz
theorem dp_un {op : UnaryOp} {r : D → (D → Prop) → Prop} (ho : UnD X (unaryOp op) r) (ha : DP X a ga) : DP X (.UnaryOp op a pos) (pUn r ga) := by
  obtain ⟨r', o, kr⟩ := ho.ex
  obtain ⟨ta, pa, ka⟩ := ha.ex
  refine ⟨_, pe_un o pa, fun σ H env F R Q Q' s f q => ?_⟩
  refine ka σ H env F R _ _ s f fun u du A H1 F1 g1 ra f1 => ?_
  refine kr F1 H1 u du A _ Q' g1.s ra f1 fun z d A' H' F' g' rz nz fz qz => ?_
  exact q z d A' H' F' (g1.trans g') rz qz

/-! ### tests -/
def bV (fa : DF) : BF := fun env Q E => fa env (fun x env1 => onB x fun k => Q k env1) E
theorem DE.test {t : TE} (k : ∀ (σ : L2.St) (H : Hp) (env : En) (F : Hp) (R : Rs) (Q : D → En → Prop) (E : EK) (Q' : VK), StA (tx X) F H σ env [] R → fa env Q E →
      (∀ v d env' H' F', Same F F' → StA (tx X) F' H' σ env' [] ((v, d) :: R) → Q d env' → Q' v H') → ExK X W F R E → t σ H Q')
    (σ : L2.St) (H : Hp) (env : En) (F : Hp) (R : Rs) (Q : Bool → En → Prop) (E : EK) (Q' : Bool → Hp → Prop) (s : StA (tx X) F H σ env [] R) (f : bV fa env Q E)
    (q : ∀ b env' H' F', Same F F' → StA (tx X) F' H' σ env' [] R → Q b env' → Q' b H') (x : ExK X W F R E) : tTest t σ H Q' := by
  refine k σ H env F R _ E _ s f (fun v d e1 H1 F1 s1 st1 f1 => ?_) x
  obtain ⟨b, rfl, f1⟩ := onB_some f1
  obtain ⟨A, r⟩ := st1.abs.head
  obtain ⟨rfl, rfl⟩ := r.bl_inv
  exact ⟨b, rfl, q b e1 H1 F1 s1 st1.tail f1⟩
theorem dt_cmp {op : CmpOp} (ho : OpD X (compareOp op) r) (ha : DE X W a fa) (hb : DE X W b fb) (hm : behindInMarks op b = false) : DT X W (.Compare a [op] [b] pos) (bV (dOp r fa fb)) := by
  obtain ⟨r', o, kr⟩ := ho.ex
  obtain ⟨ta, pa, ka⟩ := ha.ex
  obtain ⟨tb, pb, kb⟩ := hb.ex
  exact ⟨_, pt_cmpR o pa pb hm, DE.test (two ka kb kr)⟩
theorem dt_cmpP {op : CmpOp} (ho : OpD X (compareOp op) r) (ha : DP X a ga) (hb : DP X b gb) (hm : behindInMarks op b = false) : DT X W (.Compare a [op] [b] pos) (bV (pe (pOp r ga gb))) := by
  obtain ⟨r', o, kr⟩ := ho.ex
  obtain ⟨ta, pa, ka⟩ := ha.ex
  obtain ⟨tb, pb, kb⟩ := hb.ex
  refine ⟨_, pt_cmpR o pa pb hm, DE.test fun σ H env F R Q E Q' s f q _ => ?_⟩
  refine two_p ka kb kr σ H env F R _ Q' s f fun v d A H' F' g' r ⟨n, z⟩ => ?_
  have e := r.none_own n
  subst e
  exact q v d env H' F' g'.f ((s.gr g').push r) z
/-- a name, a call, a subscript, a field: its value is a bool -/
theorem dt_val (ha : DE X W a fa) (he : ∀ whole, isTrue a X.env whole = (do let v ← whole; standAt a.pos; holding [v] (truthy v)) := by intro _; rfl) : DT X W a (bV fa) := by
  obtain ⟨t, p, k⟩ := ha.ex
  exact ⟨_, pt_val p he, DE.test k⟩
def bAnd (t u : BF) : BF := fun env Q E => t env (fun k env1 => if k = true then u env1 Q E else Q false env1) E
def bOr (t u : BF) : BF := fun env Q E => t env (fun k env1 => if k = true then Q true env1 else u env1 Q E) E
def bNot (t : BF) : BF := fun env Q E => t env (fun k env1 => Q (!k) env1) E
variable {ft fu : BF} {rest : List Expr}
theorem DW.dt (h : DW X W a ft) : DT X W a ft := by
  obtain ⟨t, p, k⟩ := h.ex
  exact ⟨t, p.pt, k⟩
theorem dw_and1 (h : DT X W a ft) : DW X W (.BoolOp .And [a] pos) ft := by
  obtain ⟨t, p, k⟩ := h.ex
  exact ⟨t, pw_and1 p, k⟩
theorem dw_or1 (h : DT X W a ft) : DW X W (.BoolOp .Or [a] pos) ft := by
  obtain ⟨t, p, k⟩ := h.ex
  exact ⟨t, pw_or1 p, k⟩
theorem dw_and (h : DT X W a ft) (h2 : DW X W (.BoolOp .And (b :: rest) pos) fu) : DW X W (.BoolOp .And (a :: b :: rest) pos) (bAnd ft fu) := by
  obtain ⟨t, p, k⟩ := h.ex
  obtain ⟨u, p2, k2⟩ := h2.ex
  refine ⟨_, pw_and p p2, fun σ H env F R Q E Q' s f q x => ?_⟩
  refine k σ H env F R _ E _ s f (fun b e1 H1 F1 s1 st1 f1 => ?_) x
  cases b with
  | true => exact k2 σ H1 e1 F1 R Q E Q' st1 f1 (fun b e2 H2 F2 s2 => q b e2 H2 F2 (s1.trans s2)) (x.mono s1)
  | false => exact q false e1 H1 F1 s1 st1 f1
theorem dw_or (h : DT X W a ft) (h2 : DW X W (.BoolOp .Or (b :: rest) pos) fu) : DW X W (.BoolOp .Or (a :: b :: rest) pos) (bOr ft fu) := by
  obtain ⟨t, p, k⟩ := h.ex
  obtain ⟨u, p2, k2⟩ := h2.ex
  refine ⟨_, pw_or p p2, fun σ H env F R Q E Q' s f q x => ?_⟩
  refine k σ H env F R _ E _ s f (fun b e1 H1 F1 s1 st1 f1 => ?_) x
  cases b with
  | false => exact k2 σ H1 e1 F1 R Q E Q' st1 f1 (fun b e2 H2 F2 s2 => q b e2 H2 F2 (s1.trans s2)) (x.mono s1)
  | true => exact q true e1 H1 F1 s1 st1 f1
theorem dt_not (h : DT X W a ft) : DT X W (.UnaryOp .Not a pos) (bNot ft) := by
  obtain ⟨t, p, k⟩ := h.ex
  exact ⟨_, pt_not p, fun σ H env F R Q E Q' s f q x => k σ H env F R _ E _ s f (fun b e1 H1 F1 s1 st1 f1 => q _ e1 H1 F1 s1 st1 f1) x⟩
/-! .. as values -/
def dAnd (fa fb : DF) : DF := fun env Q E => fa env (fun x env1 => onB x fun k => if k = true then fb env1 Q E else Q (.bl false) env1) E
def dOr (fa fb : DF) : DF := fun env Q E => fa env (fun x env1 => onB x fun k => if k = true then Q (.bl true) env1 else fb env1 Q E) E
def dNot (fa : DF) : DF := fun env Q E => fa env (fun x env1 => onB x fun k => Q (.bl (!k)) env1) E
def pAnd (ga gb : PF) : PF := fun env Q => ga env fun x => onB x fun k => if k = true then gb env Q else Q (.bl false)
def pOr (ga gb : PF) : PF := fun env Q => ga env fun x => onB x fun k => if k = true then Q (.bl true) else gb env Q
def pNot (ga : PF) : PF := fun env Q => ga env fun x => onB x fun k => Q (.bl (!k))
theorem de_one {op} (h : DE X W a fa) : DE X W (.BoolOp op [a] pos) fa := by
  obtain ⟨t, p, k⟩ := h.ex
  exact ⟨t, pe_one p, k⟩
theorem dp_one {op} (h : DP X a ga) : DP X (.BoolOp op [a] pos) ga := by
  obtain ⟨t, p, k⟩ := h.ex
  exact ⟨t, pe_one p, k⟩
theorem de_and (h : DE X W a fa) (h2 : DE X W (.BoolOp .And (b :: rest) pos) fb) : DE X W (.BoolOp .And (a :: b :: rest) pos) (dAnd fa fb) := by
  obtain ⟨t, p, k⟩ := h.ex
  obtain ⟨u, p2, k2⟩ := h2.ex
  refine ⟨_, pe_and p p2, fun σ H env F R Q E Q' s f q x => ?_⟩
  refine k σ H env F R _ E _ s f (fun v d e1 H1 F1 s1 st1 f1 => ?_) x
  obtain ⟨b, rfl, f1⟩ := onB_some f1
  obtain ⟨A, r⟩ := st1.abs.head
  obtain ⟨rfl, rfl⟩ := r.bl_inv
  refine ⟨b, rfl, ?_⟩
  cases b with
  | true => exact k2 σ H1 e1 F1 R Q E Q' st1.tail f1 (fun v d e2 H2 F2 s2 => q v d e2 H2 F2 (s1.trans s2)) (x.mono s1)
  | false => exact q _ _ e1 H1 F1 s1 st1 f1
theorem de_or (h : DE X W a fa) (h2 : DE X W (.BoolOp .Or (b :: rest) pos) fb) : DE X W (.BoolOp .Or (a :: b :: rest) pos) (dOr fa fb) := by
  obtain ⟨t, p, k⟩ := h.ex
  obtain ⟨u, p2, k2⟩ := h2.ex
  refine ⟨_, pe_or p p2, fun σ H env F R Q E Q' s f q x => ?_⟩
  refine k σ H env F R _ E _ s f (fun v d e1 H1 F1 s1 st1 f1 => ?_) x
  obtain ⟨b, rfl, f1⟩ := onB_some f1
  obtain ⟨A, r⟩ := st1.abs.head
  obtain ⟨rfl, rfl⟩ := r.bl_inv
  refine ⟨b, rfl, ?_⟩
  cases b with
  | false => exact k2 σ H1 e1 F1 R Q E Q' st1.tail f1 (fun v d e2 H2 F2 s2 => q v d e2 H2 F2 (s1.trans s2)) (x.mono s1)
  | true => exact q _ _ e1 H1 F1 s1 st1 f1
theorem de_not (h : DE X W a fa) : DE X W (.UnaryOp .Not a pos) (dNot fa) := by
  obtain ⟨t, p, k⟩ := h.ex
  refine ⟨_, pe_not p, fun σ H env F R Q E Q' s f q x => ?_⟩
  refine k σ H env F R _ E _ s f (fun v d e1 H1 F1 s1 st1 f1 => ?_) x
  obtain ⟨b, rfl, f1⟩ := onB_some f1
  obtain ⟨A, r⟩ := st1.abs.head
  obtain ⟨rfl, rfl⟩ := r.bl_inv
  exact ⟨b, rfl, q _ _ e1 H1 F1 s1 (st1.tail.push (.bl _)) f1⟩
theorem dp_and (h : DP X a ga) (h2 : DP X (.BoolOp .And (b :: rest) pos) gb) : DP X (.BoolOp .And (a :: b :: rest) pos) (pAnd ga gb) := by
  obtain ⟨t, p, k⟩ := h.ex
  obtain ⟨u, p2, k2⟩ := h2.ex
  refine ⟨_, pe_and p p2, fun σ H env F R Q Q' s f q => ?_⟩
  refine k σ H env F R _ _ s f fun v d A H1 F1 g1 r f1 => ?_
  obtain ⟨b, rfl, f1⟩ := onB_some f1
  obtain ⟨rfl, rfl⟩ := r.bl_inv
  refine ⟨b, rfl, ?_⟩
  cases b with
  | true => exact k2 σ H1 env F1 R Q Q' (s.gr g1) f1 fun v d A H2 F2 g2 => q v d A H2 F2 (g1.trans g2)
  | false => exact q _ _ _ H1 F1 g1 r f1
theorem dp_or (h : DP X a ga) (h2 : DP X (.BoolOp .Or (b :: rest) pos) gb) : DP X (.BoolOp .Or (a :: b :: rest) pos) (pOr ga gb) := by
  obtain ⟨t, p, k⟩ := h.ex
  obtain ⟨u, p2, k2⟩ := h2.ex
  refine ⟨_, pe_or p p2, fun σ H env F R Q Q' s f q => ?_⟩
  refine k σ H env F R _ _ s f fun v d A H1 F1 g1 r f1 => ?_
  obtain ⟨b, rfl, f1⟩ := onB_some f1
  obtain ⟨rfl, rfl⟩ := r.bl_inv
  refine ⟨b, rfl, ?_⟩
  cases b with
  | false => exact k2 σ H1 env F1 R Q Q' (s.gr g1) f1 fun v d A H2 F2 g2 => q v d A H2 F2 (g1.trans g2)
  | true => exact q _ _ _ H1 F1 g1 r f1
theorem dp_not (h : DP X a ga) : DP X (.UnaryOp .Not a pos) (pNot ga) := by
  obtain ⟨t, p, k⟩ := h.ex
  refine ⟨_, pe_not p, fun σ H env F R Q Q' s f q => ?_⟩
  refine k σ H env F R _ _ s f fun v d A H1 F1 g1 r f1 => ?_
  obtain ⟨b, rfl, f1⟩ := onB_some f1
  obtain ⟨rfl, rfl⟩ := r.bl_inv
  exact ⟨b, rfl, q _ _ [] H1 F1 g1 (.bl _) f1⟩
def dIf (ft : BF) (fa fb : DF) : DF := fun env Q E => ft env (fun k env1 => if k = true then fa env1 Q E else fb env1 Q E) E
theorem de_ifExp (hc : DT X W c ft) (ha : DE X W a fa) (hb : DE X W b fb) : DE X W (.IfExp c a b pos) (dIf ft fa fb) := by
  obtain ⟨t, p, k⟩ := hc.ex
  obtain ⟨u, p2, k2⟩ := ha.ex
  obtain ⟨w, p3, k3⟩ := hb.ex
  refine ⟨_, pe_ifExp p p2 p3, fun σ H env F R Q E Q' s f q x => ?_⟩
  refine k σ H env F R _ E _ s f (fun b e1 H1 F1 s1 st1 f1 => ?_) x
  cases b with
  | true => exact k2 σ H1 e1 F1 R Q E Q' st1 f1 (fun v d e2 H2 F2 s2 => q v d e2 H2 F2 (s1.trans s2)) (x.mono s1)
  | false => exact k3 σ H1 e1 F1 R Q E Q' st1 f1 (fun v d e2 H2 F2 s2 => q v d e2 H2 F2 (s1.trans s2)) (x.mono s1)

/-! ### arguments -/
def aNil : AF := fun env Q _ => Q [] env
def aCons (fa : DF) (fr : AF) : AF := fun env Q E => fa env (fun x env1 => fr env1 (fun xs env2 => Q (x :: xs) env2) E) E
variable {es : List Expr} {fr : AF} {gr : PAF}
theorem da_nil : DA X W [] aNil := ⟨_, pa_nil, fun σ H env F R Q E Q' s f q _ => q [] [] env H F (Same.refl _) rfl s f⟩
theorem da_cons (ha : DE X W a fa) (hr : DA X W es fr) (hs : starEach (a :: es) X.env = (false, eval a X.env) :: starEach es X.env := by rfl) : DA X W (a :: es) (aCons fa fr) := by
  obtain ⟨t, p, k⟩ := ha.ex
  obtain ⟨u, p2, k2⟩ := hr.ex
  refine ⟨_, pa_cons p p2 hs, fun σ H env F R Q E Q' s f q x => ?_⟩
  refine k σ H env F R _ E _ s f (fun v d e1 H1 F1 s1 st1 f1 => ?_) x
  refine k2 σ H1 e1 F1 _ _ E _ st1 f1 (fun vs ds e2 H2 F2 s2 l2 st2 f2 => ?_) (x.mono s1).cons
  refine q (v :: vs) (d :: ds) e2 H2 F2 (s1.trans s2) (by simp [l2]) (st2.perm ?_) f2
  exact List.perm_middle
def paNil : PAF := fun _ Q => Q []
def paCons (ga : PF) (gr : PAF) : PAF := fun env Q => ga env fun x => gr env fun xs => Q (x :: xs)
theorem dpa_nil : DPA X [] paNil := ⟨_, pa_nil, fun σ H env F R Q Q' s f q => q [] [] [] H F (Gr.refl s.same) .nil f⟩
theorem dpa_cons (ha : DP X a ga) (hr : DPA X es gr) (hs : starEach (a :: es) X.env = (false, eval a X.env) :: starEach es X.env := by rfl) : DPA X (a :: es) (paCons ga gr) := by
  obtain ⟨t, p, k⟩ := ha.ex
  obtain ⟨u, p2, k2⟩ := hr.ex
  refine ⟨_, pa_cons p p2 hs, fun σ H env F R Q Q' s f q => ?_⟩
  refine k σ H env F R _ _ s f fun v d A H1 F1 g1 r1 f1 => ?_
  refine k2 σ H1 env F1 R _ _ (s.gr g1) f1 fun vs ds B H2 F2 g2 r2 f2 => ?_
  exact q (v :: vs) (d :: ds) _ H2 F2 (g1.trans g2) (.cons (r1.mono g2.f g2.h) r2) f2
/-- displays: a list is new and owned, a tuple's items are as they came -/
def dLst (fr : AF) : DF := fun env Q E => fr env (fun ds env1 => ds.length ≤ sizeLine ∧ Q (.lst .own ds) env1) E
def dTup (fr : AF) : DF := fun env Q E => fr env (fun ds env1 => ds.length ≤ sizeLine ∧ Q (.tup ds) env1) E
def pTup (gr : PAF) : PF := fun env Q => gr env fun ds => ds.length ≤ sizeLine ∧ Q (.tup ds)
def pLst (gr : PAF) : PF := fun env Q => gr env fun ds => ds.length ≤ sizeLine ∧ nowns ds = true ∧ Q (.lst .frz ds)
theorem de_lst (hr : DA X W es fr) : DE X W (.List es pos) (dLst fr) := by
  obtain ⟨t, p, k⟩ := hr.ex
  refine ⟨_, pe_lst p, fun σ H env F R Q E Q' s f q x => ?_⟩
  refine k σ H env F R _ E _ s f (fun vs ds e1 H1 F1 s1 l1 st1 f1 => ⟨by rw [l1]; exact f1.1, fun p hp => ?_⟩) x
  refine q _ _ e1 _ F1 s1 ?_ f1.2
  exact st1.lift fun Z z => (by
    rw [List.append_assoc] at z
    exact z.newL l1 hp)
theorem de_tup {n : Nat} (hr : DA X W es fr) : DE X W (.Tuple es n pos) (dTup fr) := by
  obtain ⟨t, p, k⟩ := hr.ex
  refine ⟨_, pe_tup p, fun σ H env F R Q E Q' s f q x => ?_⟩
  refine k σ H env F R _ E _ s f (fun vs ds e1 H1 F1 s1 l1 st1 f1 => ⟨by rw [l1]; exact f1.1, fun p hp => ?_⟩) x
  obtain ⟨F2, s2, st2⟩ := st1.lift2 (H' := upd H1 p (.tup vs)) (R' := (.ref p, .tup ds) :: R) (L' := []) fun Z z => (by
    rw [List.append_assoc] at z
    exact z.newT l1 hp)
  exact q _ _ e1 _ F2 (s1.trans s2) st2 f1.2
theorem dp_tup {n : Nat} (hr : DPA X es gr) : DP X (.Tuple es n pos) (pTup gr) := by
  obtain ⟨t, p, k⟩ := hr.ex
  refine ⟨_, pe_tup p, fun σ H env F R Q Q' s f q => ?_⟩
  refine k σ H env F R _ _ s f fun vs ds A H1 F1 g1 r1 f1 => ⟨?_, fun p hp => ?_⟩
  · have := (RL.of_zip r1).1
    omega
  · have g2 := Gr.newF g1.s (o := .tup vs) hp
    exact q _ _ A _ _ (g1.trans g2) (.tup upd_same (r1.mono g2.f g2.h)) f1.2
theorem dp_lst (hr : DPA X es gr) : DP X (.List es pos) (pLst gr) := by
  obtain ⟨t, p, k⟩ := hr.ex
  refine ⟨_, pe_lst p, fun σ H env F R Q Q' s f q => ?_⟩
  refine k σ H env F R _ _ s f fun vs ds A H1 F1 g1 r1 ⟨f1, f2, f3⟩ => ⟨?_, fun p hp => ?_⟩
  · have := (RL.of_zip r1).1
    omega
  · have g2 := Gr.newF g1.s (o := .lst vs) hp
    have e := r1.none_own f2
    subst e
    exact q _ _ [] _ _ (g1.trans g2) (.lstF (m := .frz) trivial upd_same (r1.mono g2.f g2.h)) f3
end
end Mf
set_option Elab.async false
set_option linter.all false
/-! Statements, targets, what is walked, loops, comprehensions. -/
namespace Mf
open PySem PySem.Spec PyProof.Rows L2

/-- what is wanted behind a statement -/
structure DN where
  nx : En → Prop
  rt : D → En → Prop
  bk : En → Prop
  ct : En → Prop
  ex : EK
abbrev SF := DN → En → Prop
abbrev GF := D → En → (En → Prop) → Prop
abbrev GsF := List D → En → (En → Prop) → Prop
abbrev IF := En → (List D → En → Prop) → EK → Prop

section
variable {X : Cx} {W : WX}

structure EnK (X : Cx) (F : Hp) (R : Rs) (N : DN) (D' : Ends) : Prop where
  nx : ∀ σ e H' F', Same F F' → StA (tx X) F' H' σ e [] R → N.nx e → D'.nx σ H'
  rt : ∀ v d σ e H' F', Same F F' → StA (tx X) F' H' σ e [] ((v, d) :: R) → N.rt d e → D'.rt v H'
  bk : ∀ σ e H' F', Same F F' → StA (tx X) F' H' σ e [] R → N.bk e → D'.bk σ H'
  ct : ∀ σ e H' F', Same F F' → StA (tx X) F' H' σ e [] R → N.ct e → D'.ct σ H'
theorem EnK.mono {F F' : Hp} {R : Rs} {N : DN} {D' : Ends} (h : EnK X F R N D') (s : Same F F') : EnK X F' R N D' :=
  ⟨fun σ e H F2 s2 => h.nx σ e H F2 (s.trans s2), fun v d σ e H F2 s2 => h.rt v d σ e H F2 (s.trans s2), fun σ e H F2 s2 => h.bk σ e H F2 (s.trans s2), fun σ e H F2 s2 => h.ct σ e H F2 (s.trans s2)⟩

/-- a statement, a block -/
structure DS (X : Cx) (W : WX) (st : Stmt) (f : SF) : Prop where
  ex : ∃ t : TS, PS X st t ∧ ∀ (σ : L2.St) (H : Hp) (env : En) (F : Hp) (R : Rs) (N : DN) (D' : Ends), StA (tx X) F H σ env [] R → f N env → EnK X F R N D' → ExK X W F R N.ex → t D' σ H
structure DB (X : Cx) (W : WX) (st : List Stmt) (f : SF) : Prop where
  ex : ∃ t : TS, PSs X st t ∧ ∀ (σ : L2.St) (H : Hp) (env : En) (F : Hp) (R : Rs) (N : DN) (D' : Ends), StA (tx X) F H σ env [] R → f N env → EnK X F R N D' → ExK X W F R N.ex → t D' σ H
/-- a target; ws: the slots that it writes -/
structure DG (X : Cx) (ws : List Nat) (tg : Expr) (g : GF) : Prop where
  ex : ∃ t : TG, PG X tg t ∧ ∀ (σ : L2.St) (H : Hp) (env : En) (F : Hp) (R : Rs) (v : V) (d : D) (Q : En → Prop) (Q' : L2.St → Hp → Prop), StA (tx X) F H σ env [] ((v, d) :: R) → g d env Q →
    (∀ σ' env' H' F', Same F F' → (σ'.length = σ.length ∧ ∀ i, i ∉ ws → σ'[i]? = σ[i]?) → StA (tx X) F' H' σ' env' [] R → Q env' → Q' σ' H') → t v σ H Q'
structure DGs (X : Cx) (ws : List Nat) (tgs : List Expr) (g : GsF) : Prop where
  ex : ∃ t : TGs, PGs X tgs t ∧ ∀ (σ : L2.St) (H : Hp) (env : En) (F : Hp) (R : Rs) (vs : List V) (ds : List D) (Q : En → Prop) (Q' : L2.St → Hp → Prop), vs.length = ds.length → StA (tx X) F H σ env [] (vs.zip ds ++ R) → g ds env Q →
    (∀ σ' env' H' F', Same F F' → (σ'.length = σ.length ∧ ∀ i, i ∉ ws → σ'[i]? = σ[i]?) → StA (tx X) F' H' σ' env' [] R → Q env' → Q' σ' H') → t vs σ H Q'

/-- the walk J yields ds, one after the other, as long as F stands -/
def Gives (X : Cx) (J : It) (ds : List D) (F : Hp) : Prop :=
  (∀ i d, ds[i]? = some d → ∀ F' H', Same F F' → Same F' H' → J.go i H' ∧ ∀ x H'', J.yld i H' x H'' → ∃ F'', Gr F' H' F'' H'' ∧ RO (tx X) F'' H'' x d []) ∧
    ∀ F' H', Same F F' → Same F' H' → J.stop ds.length H'
/-- what is walked -/
structure DI (X : Cx) (W : WX) (tg iter : Expr) (f : IF) : Prop where
  ex : ∃ wi : TI, PI X tg iter wi ∧ ∀ (σ : L2.St) (H : Hp) (env : En) (F : Hp) (R : Rs) (Q : List D → En → Prop) (E : EK) (R' : It → Hp → Prop), StA (tx X) F H σ env [] R → f env Q E →
    (∀ J ds env' H' F', Same F F' → StA (tx X) F' H' σ env' [] R → Gives X J ds F' → Q ds env' → R' J H') → ExK X W F R E → wi σ H R'

variable {st : Stmt} {rest : List Stmt} {f g : SF} {e : Expr} {fe : DF} {pos : Pos}
/-! ### blocks and small statements -/
def sNil : SF := fun N env => N.nx env
def sSeq (f g : SF) : SF := fun N env => f { N with nx := g N } env
theorem db_nil : DB X W [] sNil := ⟨_, pss_nil, fun σ H env F R N D' s f k x => k.nx σ env H F (Same.refl _) s f⟩
theorem db_cons (h1 : DS X W st f) (h2 : DB X W rest g) : DB X W (st :: rest) (sSeq f g) := by
  obtain ⟨t, p, k⟩ := h1.ex
  obtain ⟨u, p2, k2⟩ := h2.ex
  refine ⟨_, pss_cons p p2, fun σ H env F R N D' s q z x => ?_⟩
  exact k σ H env F R { N with nx := g N } { D' with nx := u D' } s q ⟨fun σ1 e1 H1 F1 s1 st1 q1 => k2 σ1 H1 e1 F1 R N D' st1 q1 (z.mono s1) (x.mono s1), z.rt, z.bk, z.ct⟩ x
theorem db_one (h1 : DS X W st f) : DB X W [st] f := by
  obtain ⟨t, p, k⟩ := h1.ex
  exact ⟨_, pss_one p, k⟩
theorem ds_pass : DS X W (.Pass pos) sNil := ⟨_, ps_pass, fun σ H env F R N D' s f k x => k.nx σ env H F (Same.refl _) s f⟩
def sBreak : SF := fun N env => N.bk env
def sCont : SF := fun N env => N.ct env
theorem ds_break : DS X W (.Break pos) sBreak := ⟨_, ps_break, fun σ H env F R N D' s f k x => k.bk σ env H F (Same.refl _) s f⟩
theorem ds_continue : DS X W (.Continue pos) sCont := ⟨_, ps_continue, fun σ H env F R N D' s f k x => k.ct σ env H F (Same.refl _) s f⟩
def sExpr (fe : DF) : SF := fun N env => fe env (fun _ e1 => N.nx e1) N.ex
theorem ds_expr (he : DE X W e fe) (hs : swapsWith e none pos.line X.env = pure false := by rfl) : DS X W (.Expr e pos) (sExpr fe) := by
  obtain ⟨t, p, k⟩ := he.ex
  exact ⟨_, ps_expr p hs, fun σ H env F R N D' s f z x => k σ H env F R _ _ _ s f (fun v d e1 H1 F1 s1 st1 q1 => z.nx σ e1 H1 F1 s1 st1.tail q1) x⟩
def sRet (fe : DF) : SF := fun N env => fe env N.rt N.ex
theorem ds_ret (he : DE X W e fe) : DS X W (.Return (some e) pos) (sRet fe) := by
  obtain ⟨t, p, k⟩ := he.ex
  exact ⟨_, ps_ret p, fun σ H env F R N D' s f z x => k σ H env F R _ _ _ s f (fun v d e1 H1 F1 s1 st1 q1 => z.rt v d σ e1 H1 F1 s1 st1 q1) x⟩
def sRetN : SF := fun N env => N.rt .non env
theorem ds_retN : DS X W (.Return none pos) sRetN := ⟨_, ps_retN, fun σ H env F R N D' s f z x => z.rt .non .non σ env H F (Same.refl _) (s.push .non) f⟩
def sIf (c : BF) (f g : SF) : SF := fun N env => c env (fun b e1 => if b = true then f N e1 else g N e1) N.ex
theorem ds_if {c : Expr} {a b : List Stmt} {fc : BF} (hc : DT X W c fc) (ha : DB X W a f) (hb : DB X W b g) : DS X W (.If c a b pos) (sIf fc f g) := by
  obtain ⟨t, p, k⟩ := hc.ex
  obtain ⟨u, p2, k2⟩ := ha.ex
  obtain ⟨w, p3, k3⟩ := hb.ex
  refine ⟨_, ps_if p p2 p3, fun σ H env F R N D' s q z x => ?_⟩
  refine k σ H env F R _ _ _ s q (fun b e1 H1 F1 s1 st1 q1 => ?_) x
  cases b with
  | true => exact k2 σ H1 e1 F1 R N D' st1 q1 (z.mono s1) (x.mono s1)
  | false => exact k3 σ H1 e1 F1 R N D' st1 q1 (z.mono s1) (x.mono s1)

/-! ### stores -/
theorem setS_len {env : En} {i : Nat} {d : D} : (setS env i d).sl.length = env.sl.length := by simp [setS]
def sSet (i : Nat) (fe : DF) : SF := fun N env => fe env (fun d e1 => i < e1.sl.length ∧ N.nx (setS e1 i d)) N.ex
theorem ds_set {i : Nat} {x : Str} {pos' : Pos} (hN : X.N.Nodup) (hi : X.N[i]? = some x) (hx : Loc X.env.scope x) (he : DE X W e fe) (hs : swapsWith e (some (.Name x pos')) pos.line X.env = pure false := by rfl)
    (hf : X.fn x = true ∨ X.env.scope.names.lookup x = some .local := by first | exact .inl rfl | exact .inr rfl | assumption) : DS X W (.Assign [.Name x pos'] e pos) (sSet i fe) := by
  obtain ⟨t, p, k⟩ := he.ex
  exact ⟨_, ps_set hN hi hx p hs hf, fun σ H env F R N D' s f z x => k σ H env F R _ _ _ s f (fun v d e1 H1 F1 s1 st1 q1 => z.nx _ _ H1 F1 s1 (st1.put q1.1) q1.2) x⟩
/-- targets -/
def tName (i : Nat) : GF := fun d env Q => i < env.sl.length ∧ Q (setS env i d)
theorem dg_name {i : Nat} {x : Str} (hN : X.N.Nodup) (hi : X.N[i]? = some x) (hx : Loc X.env.scope x) (hf : X.fn x = true ∨ X.env.scope.names.lookup x = some .local := by first | exact .inl rfl | exact .inr rfl | assumption) : DG X [i] (.Name x pos) (tName i) := by
  refine ⟨_, pg_name hN hi hx hf, fun σ H env F R v d Q Q' s f q => ?_⟩
  refine q _ _ H F (Same.refl _) ⟨List.length_set, fun j hj => ?_⟩ (s.put f.1) f.2
  rw [List.getElem?_set_ne]
  intro e
  exact hj (by simp [e])
def tsNil : GsF := fun ds env Q => match ds with
  | [] => Q env
  | _ => False
def tsCons (g : GF) (gs : GsF) : GsF := fun ds env Q => match ds with
  | d :: r => g d env fun e1 => gs r e1 Q
  | [] => False
theorem dgs_nil : DGs X [] [] tsNil := by
  refine ⟨_, pgs_nil, fun σ H env F R vs ds Q Q' l s f q => ?_⟩
  cases ds with
  | nil =>
    have e : vs = [] := List.eq_nil_of_length_eq_zero (by simpa using l)
    subst e
    exact ⟨rfl, q σ env H F (Same.refl _) ⟨rfl, fun _ _ => rfl⟩ s f⟩
  | cons d r => exact f.elim
theorem dgs_cons {tg : Expr} {tgs : List Expr} {g : GF} {gs : GsF} {ws ws' : List Nat} (h1 : DG X ws tg g) (h2 : DGs X ws' tgs gs)
    (hs : (assignEach (tg :: tgs) X.env).map (·.2) = assign tg X.env :: (assignEach tgs X.env).map (·.2) := by rfl) : DGs X (ws ++ ws') (tg :: tgs) (tsCons g gs) := by
  obtain ⟨t, p, k⟩ := h1.ex
  obtain ⟨u, p2, k2⟩ := h2.ex
  refine ⟨_, pgs_cons p p2 hs, fun σ H env F R vs ds Q Q' l s f q => ?_⟩
  cases ds with
  | nil => exact f.elim
  | cons d r =>
    cases vs with
    | nil => cases l
    | cons v vs =>
      refine ⟨v, vs, rfl, ?_⟩
      refine k σ H env F (vs.zip r ++ R) v d _ _ s f fun σ1 e1 H1 F1 s1 a1 st1 f1 => ?_
      refine k2 σ1 H1 e1 F1 R vs r _ _ (by simpa using l) st1 f1 fun σ2 e2 H2 F2 s2 a2 st2 f2 => ?_
      exact q σ2 e2 H2 F2 (s1.trans s2) ⟨a2.1.trans a1.1, fun i hi => (a2.2 i fun m => hi (List.mem_append_right _ m)).trans (a1.2 i fun m => hi (List.mem_append_left _ m))⟩ st2 f2
/-- (a, b, ..) = a tuple of that length -/
def tTupT (n : Nat) (g : GsF) : GF := fun d env Q => match d with
  | .tup ds => ds.length = n ∧ g ds env Q
  | _ => False
theorem dg_tup {es : List Expr} {k : Nat} {g : GsF} {n : Nat} {ws : List Nat} (hc : X.calm = true) (h : DGs X ws es g)
    (hn : (assignEach es X.env).length = n := by rfl) (hst : (assignEach es X.env).findIdx? (·.1) = none := by rfl) : DG X ws (.Tuple es k pos) (tTupT n g) := by
  obtain ⟨t, p, kk⟩ := h.ex
  refine ⟨_, pg_tup hc p hn hst, fun σ H env F R v d Q Q' s f q => ?_⟩
  cases d with
  | tup ds =>
    obtain ⟨f1, f2⟩ := f
    obtain ⟨⟨a, vs⟩, ⟨rfl, hq, l⟩, s1⟩ := s.liftE (FF := fun _ => F) (HH := fun _ => H) (LL := fun _ => []) (G := fun x => x.2.zip ds ++ R) (P := fun x : Addr × List V => v = .ref x.1 ∧ F x.1 = some (.tup x.2) ∧ x.2.length = ds.length) fun Z h => by
      obtain ⟨x, p, q⟩ := Abs.openT h
      exact ⟨x, p, by rw [List.append_assoc]; exact q⟩
    exact ⟨a, vs, rfl, SqT_of (s.same _ _ hq), l.trans f1, kk σ H env F R vs ds Q Q' l s1 f2 q⟩
  | _ => exact f.elim

/-! ### loops -/
def whN (c : BF) (b : SF) : Nat → DN → En → Prop
  | 0, _, _ => False
  | n + 1, N, env => c env (fun k e1 => if k = true then b { N with nx := whN c b n N, ct := whN c b n N, bk := N.nx } e1 else N.nx e1) N.ex
def sWhile (c : BF) (b : SF) : SF := fun N env => ∃ n, whN c b n N env
theorem ds_while {c : Expr} {body : List Stmt} {fc : BF} (hp : PassesOwn (model X.prog X.w) X.A X.env X.xe) (hc : DT X W c fc) (hb : DB X W body f) : DS X W (.While c body [] pos) (sWhile fc f) := by
  obtain ⟨t, p, k⟩ := hc.ex
  obtain ⟨u, p2, k2⟩ := hb.ex
  refine ⟨_, ps_while hp p p2, fun σ H env F R N D' s ⟨n, q⟩ z x => ?_⟩
  refine ⟨fun m σ H => ∃ env F', Same F F' ∧ StA (tx X) F' H σ env [] R ∧ whN fc f m N env, ⟨n, env, F, Same.refl _, s, q⟩, ?_⟩
  rintro m σ H ⟨env, F', sF, st, q⟩
  cases m with
  | zero => exact q.elim
  | succ m =>
    refine k σ H env F' R _ _ _ st q (fun b e1 H1 F1 s1 st1 q1 => ?_) (x.mono sF)
    cases b with
    | false => exact z.nx σ e1 H1 F1 (sF.trans s1) st1 q1
    | true =>
      refine ⟨fun σ' H' => ∃ env F', Same F F' ∧ StA (tx X) F' H' σ' env [] R ∧ whN fc f m N env, fun σ' H' h => ⟨m, Nat.lt_succ_self m, h⟩, ?_⟩
      refine k2 σ H1 e1 F1 R _ _ st1 q1 ⟨?_, ?_, ?_, ?_⟩ (x.mono (sF.trans s1))
      · exact fun σ2 e2 H2 F2 s2 st2 q2 => ⟨e2, F2, (sF.trans s1).trans s2, st2, q2⟩
      · exact fun v d σ2 e2 H2 F2 s2 st2 q2 => z.rt v d σ2 e2 H2 F2 ((sF.trans s1).trans s2) st2 q2
      · exact fun σ2 e2 H2 F2 s2 st2 q2 => z.nx σ2 e2 H2 F2 ((sF.trans s1).trans s2) st2 q2
      · exact fun σ2 e2 H2 F2 s2 st2 q2 => ⟨e2, F2, (sF.trans s1).trans s2, st2, q2⟩

theorem Gives.mono {J : It} {ds : List D} {F F' : Hp} (h : Gives X J ds F) (s : Same F F') : Gives X J ds F' :=
  ⟨fun i d e F2 H2 s2 => h.1 i d e F2 H2 (s.trans s2), fun F2 H2 s2 => h.2 F2 H2 (s.trans s2)⟩

def forL (g : GF) (b : SF) (N : DN) : List D → En → Prop
  | [], env => N.nx env
  | d :: ds, env => g d env fun e1 => b { N with nx := forL g b N ds, ct := forL g b N ds, bk := N.nx } e1
def sFor (fi : IF) (g : GF) (b : SF) : SF := fun N env => fi env (fun ds e1 => forL g b N ds e1) N.ex
theorem ds_for {tg iter : Expr} {body : List Stmt} {fi : IF} {g : GF} {ws : List Nat} (hp : PassesOwn (model X.prog X.w) X.A X.env X.xe) (hc : X.calm = true) (hi : DI X W tg iter fi) (hg : DG X ws tg g) (hb : DB X W body f)
    (hs : ∀ x, foldedSetIterable iter X.env x = pure x := by intro _; rfl) : DS X W (.For tg iter body [] pos) (sFor fi g f) := by
  obtain ⟨wi, p, k⟩ := hi.ex
  obtain ⟨t, p2, k2⟩ := hg.ex
  obtain ⟨u, p3, k3⟩ := hb.ex
  refine ⟨_, ps_for hp hc p p2 p3 hs, fun σ H env F R N D' s q z x => ?_⟩
  refine k σ H env F R _ _ _ s q (fun J ds e1 H1 F1 s1 st1 gv q1 => ?_) x
  refine ⟨fun i m σ H => i + m = ds.length ∧ ∃ env F', Same F1 F' ∧ StA (tx X) F' H σ env [] R ∧ forL g f N (ds.drop i) env, ⟨ds.length, Nat.zero_add _, e1, F1, Same.refl _, st1, q1⟩, ?_⟩
  rintro i m σ H ⟨im, env, F2, s2, st2, q2⟩
  have s12 := s1.trans s2
  by_cases hlt : i < ds.length
  · have hd : ds.drop i = ds[i] :: ds.drop (i + 1) := List.drop_eq_getElem_cons hlt
    rw [hd] at q2
    obtain ⟨go, yl⟩ := gv.1 i ds[i] (List.getElem?_eq_getElem hlt) F2 H s2 st2.same
    refine .inr ⟨go, fun σ' H' => i + 1 + (m - 1) = ds.length ∧ ∃ env F', Same F1 F' ∧ StA (tx X) F' H' σ' env [] R ∧ forL g f N (ds.drop (i + 1)) env, fun σ' H' h => ⟨m - 1, by omega, h⟩, fun v H' y => ?_⟩
    obtain ⟨F3, g3, r3⟩ := yl v H' y
    have st3 := (st2.gr g3).push r3
    refine k2 σ H' env F3 R v _ _ _ st3 q2 fun σ4 e4 H4 F4 s4 _ st4 q4 => ?_
    have s14 := (s2.trans g3.f).trans s4
    refine k3 σ4 H4 e4 F4 R _ _ st4 q4 ⟨?_, ?_, ?_, ?_⟩ (x.mono (s1.trans s14))
    · exact fun σ5 e5 H5 F5 s5 st5 q5 => ⟨by omega, e5, F5, s14.trans s5, st5, q5⟩
    · exact fun v d σ5 e5 H5 F5 s5 st5 q5 => z.rt v d σ5 e5 H5 F5 ((s1.trans s14).trans s5) st5 q5
    · exact fun σ5 e5 H5 F5 s5 st5 q5 => z.nx σ5 e5 H5 F5 ((s1.trans s14).trans s5) st5 q5
    · exact fun σ5 e5 H5 F5 s5 st5 q5 => ⟨by omega, e5, F5, s14.trans s5, st5, q5⟩
  · have e : i = ds.length := by omega
    subst e
    rw [List.drop_length] at q2
    exact .inl ⟨gv.2 F2 H s2 st2.same, z.nx σ env H F2 s12 st2 q2⟩

/-! ### what is walked -/
/-- a list or a tuple (frozen, where it was owned) -/
def iSeq (fe : DF) : IF := fun env Q E => fe env (fun d e1 => match d with
  | .lst m ds => nown (.lst m ds) = true ∧ Q ds e1
  | .tup ds => nowns ds = true ∧ Q ds e1
  | _ => False) E
theorem pi_seq {tg l : Expr} {tl : TE} (hl : PE X l tl) : PI X tg l (fun σ H R => tl σ H fun x H1 => ∃ a, x = .ref a ∧ (((∃ xs, SqL X.K H1 a xs) ∧ R (Itl X.K a) H1) ∨ ((∃ xs, SqT X.K H1 a xs) ∧ R (Itt X.K a) H1))) := by
  refine ⟨fun pins s σ H R I h => ?_⟩
  refine thn (hl.run pins s σ H _ I h) fun v s1 ⟨x, H1, I1, r1, q1⟩ => ?_
  obtain ⟨a, e, q⟩ := q1
  subst e
  cases r1
  rcases q with ⟨⟨xs, hq⟩, q⟩ | ⟨⟨xs, hq⟩, q⟩
  · obtain ⟨its, rv, p, hz⟩ := I1.list hq
    refine wpAny_pyIter_list p.isList ?_
    refine ⟨s1.heap.objs.size, [s1.heap.objs.size], _, _, H1, rfl, I1.kept (t' := s1.toks) fun b o e => Heap.get?_push_of_some _ e, turn_list a _, ⟨_, Heap.get?_push_size _ rfl, rfl, rfl⟩, fun b hb => ?_, q⟩
    have e : b = s1.heap.objs.size := by simpa using hb
    subst e
    exact I1.fpOk (Nat.le_refl _) (I1.hok.fresh (Nat.le_refl _))
  · obtain ⟨its, rv, p, hz⟩ := I1.tuple hq
    refine wpAny_pyIter_tuple (show s1.heap.IsTuple a its.toArray from p) ?_
    refine ⟨s1.heap.objs.size, [s1.heap.objs.size], _, _, H1, rfl, I1.kept (t' := s1.toks) fun b o e => Heap.get?_push_of_some _ e, turn_tuple a _, ⟨_, Heap.get?_push_size _ rfl, rfl, rfl⟩, fun b hb => ?_, q⟩
    have e : b = s1.heap.objs.size := by simpa using hb
    subst e
    exact I1.fpOk (Nat.le_refl _) (I1.hok.fresh (Nat.le_refl _))
theorem ROs.get {T : Tx} {F H : Hp} : ∀ {vs : List V} {ds : List D}, ROs T F H vs ds [] → ∀ {i : Nat} {d : D}, ds[i]? = some d → ∃ v, vs[i]? = some v ∧ RO T F H v d [] := by
  have key : ∀ (n : Nat) (vs : List V) (ds : List D) (A : List Addr), ROs T F H vs ds A → A = [] → ∀ d, ds[n]? = some d → ∃ v, vs[n]? = some v ∧ RO T F H v d [] := by
    intro n
    induction n with
    | zero =>
      intro vs ds A h e d hd
      cases h with
      | nil => simp at hd
      | cons h r =>
        obtain ⟨rfl, rfl⟩ := app_nil e.symm
        simp at hd
        subst hd
        exact ⟨_, rfl, h⟩
    | succ n ih =>
      intro vs ds A h e d hd
      cases h with
      | nil => simp at hd
      | cons h r =>
        obtain ⟨rfl, rfl⟩ := app_nil e.symm
        exact ih _ _ _ r rfl d (by simpa using hd)
  intro vs ds h i d hd
  exact key i vs ds [] h rfl d hd
theorem ROs.len {T : Tx} {F H : Hp} {vs : List V} {ds : List D} {A : List Addr} (h : ROs T F H vs ds A) : vs.length = ds.length := (RL.of_zip h).1
theorem gives_list {a : Addr} {vs : List V} {ds : List D} {F H : Hp} (hq : F a = some (.lst vs)) (r : ROs (tx X) F H vs ds []) : Gives X (Itl X.K a) ds F := by
  refine ⟨fun i d e F' H' s1 s2 => ?_, fun F' H' s1 s2 => ⟨vs, SqL_of ((s1.trans s2) _ _ hq), Nat.le_of_eq r.len⟩⟩
  obtain ⟨v, ev, rv⟩ := r.get e
  refine ⟨⟨vs, v, SqL_of ((s1.trans s2) _ _ hq), ev⟩, fun x H'' y => ?_⟩
  obtain ⟨rfl, y⟩ := y
  have e2 := y vs (SqL_of ((s1.trans s2) _ _ hq))
  rw [ev] at e2
  cases e2
  exact ⟨F', Gr.refl s2, (rv.free (H' := H'') rfl).mono s1 (Same.refl _)⟩
theorem gives_tup {a : Addr} {vs : List V} {ds : List D} {F H : Hp} (hq : F a = some (.tup vs)) (r : ROs (tx X) F H vs ds []) : Gives X (Itt X.K a) ds F := by
  refine ⟨fun i d e F' H' s1 s2 => ?_, fun F' H' s1 s2 => ⟨vs, SqT_of ((s1.trans s2) _ _ hq), Nat.le_of_eq r.len⟩⟩
  obtain ⟨v, ev, rv⟩ := r.get e
  refine ⟨⟨vs, v, SqT_of ((s1.trans s2) _ _ hq), ev⟩, fun x H'' y => ?_⟩
  obtain ⟨rfl, y⟩ := y
  have e2 := y vs (SqT_of ((s1.trans s2) _ _ hq))
  rw [ev] at e2
  cases e2
  exact ⟨F', Gr.refl s2, (rv.free (H' := H'') rfl).mono s1 (Same.refl _)⟩
theorem di_seq {tg l : Expr} (hl : DE X W l fe) : DI X W tg l (iSeq fe) := by
  obtain ⟨t, p, k⟩ := hl.ex
  refine ⟨_, pi_seq p, fun σ H env F R Q E R' s f q x => ?_⟩
  refine k σ H env F R _ E _ s f (fun v d e1 H1 F1 s1 st1 f1 => ?_) x
  cases d with
  | lst m ds =>
    obtain ⟨f1, f2⟩ := f1
    have r := st1.abs.head0 f1
    cases r with
    | @lstF a vs _ _ hm hq r => exact ⟨a, rfl, .inl ⟨⟨vs, SqL_of (st1.same _ _ hq)⟩, q _ ds e1 H1 F1 s1 st1.tail (gives_list hq r) f2⟩⟩
  | tup ds =>
    obtain ⟨f1, f2⟩ := f1
    have r := st1.abs.head0 (d := .tup ds) (by rw [nown]; exact f1)
    cases r with
    | @tup a vs _ _ hq r => exact ⟨a, rfl, .inr ⟨⟨vs, SqT_of (st1.same _ _ hq)⟩, q _ ds e1 H1 F1 s1 st1.tail (gives_tup hq r) f2⟩⟩
  | _ => exact f1.elim
/-- range(n), range(a, b) -/
def rng (a b : Int) : List D := (List.range (b - a).toNat).map fun (k : Nat) => D.int (a + (k : Int))
def Sm (i : Int) : Prop := -(2 ^ 62) ≤ i ∧ i < 2 ^ 62
def iR1 (fa : AF) : IF := fun env Q E => fa env (fun ds e1 => match ds with
  | [.int j] => Sm j ∧ Q (rng 0 j) e1
  | _ => False) E
def iR2 (fa : AF) : IF := fun env Q E => fa env (fun ds e1 => match ds with
  | [.int i, .int j] => Sm i ∧ Sm j ∧ Q (rng i j) e1
  | _ => False) E
theorem rng_get {a b : Int} {i : Nat} {d : D} (h : (rng a b)[i]? = some d) : i < (b - a).toNat ∧ d = .int (a + (i : Int)) := by
  unfold rng at h
  rw [List.getElem?_map] at h
  cases q : (List.range (b - a).toNat)[i]? with
  | none => rw [q] at h; cases h
  | some z =>
    rw [q] at h
    obtain ⟨h1, h2⟩ := List.getElem?_eq_some_iff.mp q
    rw [List.getElem_range] at h2
    subst h2
    rw [List.length_range] at h1
    exact ⟨h1, (Option.some.inj h).symm⟩
theorem rng_len {a b : Int} : (rng a b).length = (b - a).toNat := by simp [rng]
theorem gives_rng {a b : Int} {F : Hp} : Gives X (Itr a (b - a).toNat) (rng a b) F := by
  refine ⟨fun i d e F' H' s1 s2 => ?_, fun F' H' s1 s2 => Nat.le_of_eq rng_len.symm⟩
  obtain ⟨h1, rfl⟩ := rng_get e
  refine ⟨h1, fun x H'' y => ?_⟩
  obtain ⟨rfl, rfl⟩ := y
  exact ⟨F', Gr.refl s2, .int _⟩
theorem StA.vals1 {T : Tx} {F H : Hp} {σ : L2.St} {e : En} {R : Rs} {vs : List V} {d : D} (s : StA T F H σ e [] (vs.zip [d] ++ R)) (l : vs.length = [d].length) : ∃ v A, vs = [v] ∧ RO T F H v d A := by
  match vs, l with
  | [v], _ =>
    obtain ⟨A, r⟩ := s.abs.head
    exact ⟨v, A, rfl, r⟩
theorem StA.vals2 {T : Tx} {F H : Hp} {σ : L2.St} {e : En} {R : Rs} {vs : List V} {d d2 : D} (s : StA T F H σ e [] (vs.zip [d, d2] ++ R)) (l : vs.length = [d, d2].length) : ∃ v A v2 A2, vs = [v, v2] ∧ RO T F H v d A ∧ RO T F H v2 d2 A2 := by
  match vs, l with
  | [v, v2], _ =>
    obtain ⟨A, r⟩ := s.abs.head
    obtain ⟨A2, r2⟩ := s.tail.abs.head
    exact ⟨v, A, v2, A2, rfl, r, r2⟩
theorem di_range1 {tg a : Expr} {fa : AF} {p q : Pos} (hg : Gl X "range") (hm : X.mg "range" = none) (ha : DA X W [a] fa)
    (hs : starEach [a] X.env = [(false, eval a X.env)] := by rfl) : DI X W tg (.Call (.Name "range" p) [a] [] q) (iR1 fa) := by
  obtain ⟨t, pp, k⟩ := ha.ex
  refine ⟨_, pi_range1 hg hm pp hs, fun σ H env F R Q E R' s f q x => ?_⟩
  refine k σ H env F R _ E _ s f (fun vs ds e1 H1 F1 s1 l1 st1 f1 => ?_) x
  match ds, f1 with
  | [.int j], f1 =>
    obtain ⟨v, A, rfl, r⟩ := st1.vals1 l1
    obtain ⟨rfl, rfl⟩ := r.int_inv
    refine ⟨j, rfl, f1.1.1, f1.1.2, ?_⟩
    have e : j.toNat = (j - 0).toNat := by rw [Int.sub_zero]
    rw [e]
    exact q _ _ e1 H1 F1 s1 st1.drop gives_rng f1.2
theorem di_range2 {tg a b : Expr} {fa : AF} {p q : Pos} (hg : Gl X "range") (hm : X.mg "range" = none) (ha : DA X W [a, b] fa)
    (hs : starEach [a, b] X.env = [(false, eval a X.env), (false, eval b X.env)] := by rfl) (hs2 : starEach [b] X.env = [(false, eval b X.env)] := by rfl) : DI X W tg (.Call (.Name "range" p) [a, b] [] q) (iR2 fa) := by
  obtain ⟨t, pp, k⟩ := ha.ex
  refine ⟨_, pi_range2 hg hm pp hs hs2, fun σ H env F R Q E R' s f q x => ?_⟩
  refine k σ H env F R _ E _ s f (fun vs ds e1 H1 F1 s1 l1 st1 f1 => ?_) x
  match ds, f1 with
  | [.int i, .int j], f1 =>
    obtain ⟨v, A, v2, A2, rfl, r, r2⟩ := st1.vals2 l1
    obtain ⟨rfl, rfl⟩ := r.int_inv
    obtain ⟨rfl, rfl⟩ := r2.int_inv
    exact ⟨i, j, rfl, ⟨f1.1.1, f1.1.2, f1.2.1.1, f1.2.1.2⟩, q _ _ e1 H1 F1 s1 st1.drop gives_rng f1.2.2⟩

/-! ### comprehensions -/
def wipeL (sl : List (Option D)) : List Nat → List (Option D)
  | [] => sl
  | v :: vs => (wipeL sl vs).set v none
def wipeE (e : En) (vs : List Nat) : En := { e with sl := wipeL e.sl vs }
theorem StA.wipe {T : Tx} {F H : Hp} {σ : L2.St} {e : En} {L : List Addr} {R : Rs} (h : StA T F H σ e L R) : ∀ vs : List Nat, StA T F H σ (wipeE e vs) L R
  | [] => h
  | v :: vs => (StA.wipe h vs).forget v
theorem wipeL_none {sl : List (Option D)} {i : Nat} {d : D} : ∀ {vs : List Nat}, (wipeL sl vs)[i]? = some (some d) → i ∉ vs
  | [], _ => by simp
  | v :: vs, h => by
    unfold wipeL at h
    by_cases hi : v = i
    · subst hi
      rw [List.getElem?_set] at h
      simp at h
    · rw [List.getElem?_set_ne hi] at h
      simp only [List.mem_cons, not_or]
      exact ⟨fun e => hi e.symm, wipeL_none h⟩
theorem SlotR.agree {σ : L2.St} {sl : List (Option D)} {rs : Rs} (h : SlotR σ sl rs) : ∀ {σ' : L2.St}, σ'.length = σ.length → (∀ (i : Nat) (d : D), sl[i]? = some (some d) → σ'[i]? = σ[i]?) → SlotR σ' sl rs := by
  induction h with
  | nil =>
    intro σ' l _
    rw [List.eq_nil_of_length_eq_zero l]
    exact .nil
  | skip _ ih =>
    intro σ' l a
    cases σ' with
    | nil => cases l
    | cons o σ' => exact .skip (ih (by simpa using l) fun i d e => by simpa using a (i + 1) d (by simpa using e))
  | cons _ ih =>
    intro σ' l a
    cases σ' with
    | nil => cases l
    | cons o σ' =>
      have e0 := a 0 _ rfl
      simp at e0
      subst e0
      exact .cons (ih (by simpa using l) fun i d e => by simpa using a (i + 1) d (by simpa using e))
theorem StA.agree {T : Tx} {F H : Hp} {σ σ' : L2.St} {e : En} {L : List Addr} {R : Rs} (h : StA T F H σ e L R) (l : σ'.length = σ.length) (a : ∀ (i : Nat) (d : D), e.sl[i]? = some (some d) → σ'[i]? = σ[i]?) : StA T F H σ' e L R := by
  obtain ⟨rs, s, h⟩ := h
  exact ⟨rs, s.agree (σ' := σ') l a, h⟩
theorem wipeL_len (sl : List (Option D)) : ∀ vs : List Nat, (wipeL sl vs).length = sl.length
  | [] => rfl
  | v :: vs => by unfold wipeL; rw [List.length_set, wipeL_len sl vs]
theorem wipeL_in {sl : List (Option D)} {i : Nat} : ∀ {vs : List Nat}, i ∈ vs → (wipeL sl vs)[i]? = if i < sl.length then some none else none
  | [], h => nomatch h
  | v :: vs, h => by
    unfold wipeL
    rw [List.getElem?_set, wipeL_len]
    by_cases e : v = i
    · subst e
      simp
    · rw [if_neg e]
      rcases List.mem_cons.mp h with h | h
      · exact absurd h.symm e
      · exact wipeL_in h
theorem wipeL_out {sl : List (Option D)} {i : Nat} : ∀ {vs : List Nat}, i ∉ vs → (wipeL sl vs)[i]? = sl[i]?
  | [], _ => rfl
  | v :: vs, h => by
    unfold wipeL
    rw [List.getElem?_set_ne (fun e => h (by simp [e]))]
    exact wipeL_out fun m => h (List.mem_cons_of_mem _ m)
theorem wipeE_wipeE (e : En) (vs : List Nat) : wipeE (wipeE e vs) vs = wipeE e vs := by
  unfold wipeE
  congr 1
  refine List.ext_getElem? fun i => ?_
  by_cases hi : i ∈ vs
  · rw [wipeL_in hi, wipeL_in hi, wipeL_len]
  · rw [wipeL_out hi]
theorem wipe_eq {σ σ' : L2.St} : ∀ {vs : List Nat}, σ'.length = σ.length → (∀ (i : Nat), i ∉ vs → σ'[i]? = σ[i]?) → L2.wipe σ' vs = L2.wipe σ vs := by
  intro vs l a
  refine List.ext_getElem? fun i => ?_
  by_cases hi : i ∈ vs
  · have key : ∀ (σ : L2.St) (vs : List Nat), i ∈ vs → (L2.wipe σ vs)[i]? = if i < σ.length then some none else none := by
      intro σ vs
      induction vs with
      | nil => intro h; exact nomatch h
      | cons v vs ih =>
        intro h
        unfold L2.wipe
        rw [List.getElem?_set, wipe_length]
        by_cases e : v = i
        · subst e
          simp
        · rw [if_neg e]
          rcases List.mem_cons.mp h with h | h
          · exact absurd h.symm e
          · exact ih h
    rw [key σ' vs hi, key σ vs hi, l]
  · have key : ∀ (σ : L2.St) (vs : List Nat), i ∉ vs → (L2.wipe σ vs)[i]? = σ[i]? := by
      intro σ vs
      induction vs with
      | nil => intro _; rfl
      | cons v vs ih =>
        intro h
        unfold L2.wipe
        rw [List.getElem?_set_ne (fun e => h (by simp [e]))]
        exact ih fun m => h (List.mem_cons_of_mem _ m)
    rw [key σ' vs hi, key σ vs hi]
    exact a i hi
theorem wipe_at {σ : L2.St} {i : Nat} : ∀ {vs : List Nat}, i ∉ vs → (L2.wipe σ vs)[i]? = σ[i]?
  | [], _ => rfl
  | v :: vs, h => by
    unfold L2.wipe
    rw [List.getElem?_set_ne (fun e => h (by simp [e]))]
    exact wipe_at fun m => h (List.mem_cons_of_mem _ m)
/-- the slots of a block, forgotten on both sides -/
theorem StA.wiped {T : Tx} {F H : Hp} {σ : L2.St} {e : En} {L : List Addr} {R : Rs} (h : StA T F H σ e L R) (vs : List Nat) : StA T F H (L2.wipe σ vs) (wipeE e vs) L R :=
  StA.agree (StA.wipe h vs) (wipe_length σ vs) fun i d e => wipe_at (wipeL_none e)
/-- .. back -/
theorem StA.unwiped {T : Tx} {F H : Hp} {σ σ2 : L2.St} {e : En} {L : List Addr} {R : Rs} {vs : List Nat} (h : StA T F H σ2 e L R) (q : L2.wipe σ2 vs = L2.wipe σ vs) : StA T F H σ (wipeE e vs) L R := by
  have h2 := h.wiped vs
  rw [q] at h2
  exact StA.agree h2 (wipe_length σ vs).symm fun i d e => (wipe_at (wipeL_none e)).symm

/-- the tests behind a for of a comprehension -/
structure DTs (X : Cx) (W : WX) (es : List Expr) (f : BF) : Prop where
  ex : ∃ t : TT, PTs X es t ∧ ∀ (σ : L2.St) (H : Hp) (env : En) (F : Hp) (R : Rs) (Q : Bool → En → Prop) (E : EK) (Q' : Bool → Hp → Prop), StA (tx X) F H σ env [] R → f env Q E →
    (∀ b env' H' F', Same F F' → StA (tx X) F' H' σ env' [] R → Q b env' → Q' b H') → ExK X W F R E → t σ H Q'
def bYes : BF := fun env Q _ => Q true env
theorem dts_nil : DTs X W [] bYes := ⟨_, pts_nil, fun σ H env F R Q E Q' s f q _ => q true env H F (Same.refl _) s f⟩
theorem dts_one {c : Expr} {fc : BF} (h : DT X W c fc) : DTs X W [c] fc := by
  obtain ⟨t, p, k⟩ := h.ex
  exact ⟨_, pts_one p, k⟩
/-- nothing is raised -/
def EN : EK := fun _ _ => False
abbrev WN : WX := fun _ _ _ _ => False
theorem ExK.no {F : Hp} {R : Rs} : ExK X W F R EN := fun _ _ _ _ _ _ _ _ _ _ h => h.elim
def lcL (vs : List Nat) (g : GF) (ft : BF) (fe : DF) : List D → List D → En → (List D → En → Prop) → Prop
  | [], acc, env, Q => Q acc env
  | d :: ds, acc, env, Q => g d env fun e1 => ft e1 (fun b e2 => if b = true then fe e2 (fun y e3 => acc.length < sizeLine ∧ lcL vs g ft fe ds (acc ++ [y]) (wipeE e3 vs) Q) EN else lcL vs g ft fe ds acc (wipeE e2 vs) Q) EN
def dLc (vs : List Nat) (fi : IF) (g : GF) (ft : BF) (fe : DF) : DF := fun env Q E => fi env (fun ds e1 => lcL vs g ft fe ds [] (wipeE e1 vs) fun acc e2 => Q (.lst .own acc) e2) E
/-- one reading for all the blocks -/
def allE {ι : Type} (t : ι → TE) : TE := fun σ H Q => ∀ z, t z σ H Q
abbrev BlkIx := Shared × Hp × Addr × List (Str × Addr) × List Addr
abbrev Cx.bl (X : Cx) (scope : Scope) (z : BlkIx) : Cx := X.blk z.1 z.2.1 scope (compEnvC scope z.2.2.2.1 z.2.2.1 X.env) z.2.2.2.2
theorem wipe_wipe (σ : L2.St) (vs : List Nat) : L2.wipe (L2.wipe σ vs) vs = L2.wipe σ vs := wipe_eq (wipe_length σ vs) fun i hi => wipe_at hi
/-- what a reading is worth -/
def KE (X : Cx) (W : WX) (f : DF) (t : TE) : Prop := ∀ (σ : L2.St) (H : Hp) (env : En) (F : Hp) (R : Rs) (Q : D → En → Prop) (E : EK) (Q' : VK), StA (tx X) F H σ env [] R → f env Q E →
    (∀ v d env' H' F', Same F F' → StA (tx X) F' H' σ env' [] ((v, d) :: R) → Q d env' → Q' v H') → ExK X W F R E → t σ H Q'
def KT (X : Cx) (W : WX) (f : BF) (t : TT) : Prop := ∀ (σ : L2.St) (H : Hp) (env : En) (F : Hp) (R : Rs) (Q : Bool → En → Prop) (E : EK) (Q' : Bool → Hp → Prop), StA (tx X) F H σ env [] R → f env Q E →
    (∀ b env' H' F', Same F F' → StA (tx X) F' H' σ env' [] R → Q b env' → Q' b H') → ExK X W F R E → t σ H Q'
def KG (X : Cx) (ws : List Nat) (g : GF) (t : TG) : Prop := ∀ (σ : L2.St) (H : Hp) (env : En) (F : Hp) (R : Rs) (v : V) (d : D) (Q : En → Prop) (Q' : L2.St → Hp → Prop), StA (tx X) F H σ env [] ((v, d) :: R) → g d env Q →
    (∀ σ' env' H' F', Same F F' → (σ'.length = σ.length ∧ ∀ i, i ∉ ws → σ'[i]? = σ[i]?) → StA (tx X) F' H' σ' env' [] R → Q env' → Q' σ' H') → t v σ H Q'
def KI (X : Cx) (W : WX) (f : IF) (wi : TI) : Prop := ∀ (σ : L2.St) (H : Hp) (env : En) (F : Hp) (R : Rs) (Q : List D → En → Prop) (E : EK) (R' : It → Hp → Prop), StA (tx X) F H σ env [] R → f env Q E →
    (∀ J ds env' H' F', Same F F' → StA (tx X) F' H' σ env' [] R → Gives X J ds F' → Q ds env' → R' J H') → ExK X W F R E → wi σ H R'
theorem dg_all {scope : Scope} {tg : Expr} {g : GF} {ws : List Nat} (h : ∀ z : BlkIx, DG (Cx.bl X scope z) ws tg g) : ∃ t : TG, (∀ s H C cl fp, PG (X.blk s H scope (compEnvC scope cl C X.env) fp) tg t) ∧ KG X ws g t := by
  have c := fun z => (h z).ex
  refine ⟨fun v σ H Q => ∀ z, Classical.choose (c z) v σ H Q, fun s H C cl fp => ⟨fun pins s' σ H' v u Q I r h => (Classical.choose_spec (c (s, H, C, cl, fp))).1.run pins s' σ H' v u Q I r (h _)⟩, ?_⟩
  intro σ H env F R v d Q Q' s f q z
  exact (Classical.choose_spec (c z)).2 σ H env F R v d Q Q' s f q
theorem dt_all {scope : Scope} {es : List Expr} {f : BF} (h : ∀ z : BlkIx, DTs (Cx.bl X scope z) WN es f) : ∃ t : TT, (∀ s H C cl fp, PTs (X.blk s H scope (compEnvC scope cl C X.env) fp) es t) ∧ KT X WN f t := by
  have c := fun z => (h z).ex
  refine ⟨fun σ H Q => ∀ z, Classical.choose (c z) σ H Q, fun s H C cl fp => ⟨fun pins s' σ H' Q I h => (Classical.choose_spec (c (s, H, C, cl, fp))).1.run pins s' σ H' Q I (h _)⟩, ?_⟩
  intro σ H env F R Q E Q' s f q x z
  exact (Classical.choose_spec (c z)).2 σ H env F R Q E Q' s f q x
theorem de_all {scope : Scope} {f : DF} (h : ∀ z : BlkIx, DE (Cx.bl X scope z) WN e f) : ∃ t : TE, (∀ s H C cl fp, PE (X.blk s H scope (compEnvC scope cl C X.env) fp) e t) ∧ KE X WN f t := by
  have c := fun z => (h z).ex
  refine ⟨fun σ H Q => ∀ z, Classical.choose (c z) σ H Q, fun s H C cl fp => ⟨fun pins s' σ H' Q I h => (Classical.choose_spec (c (s, H, C, cl, fp))).1.run pins s' σ H' Q I (h _)⟩, ?_⟩
  intro σ H env F R Q E Q' s f q x z
  exact (Classical.choose_spec (c z)).2 σ H env F R Q E Q' s f q x
theorem di_all {scope : Scope} {tg iter : Expr} {f : IF} (h : ∀ z : BlkIx, DI (Cx.bl X scope z) WN tg iter f) : ∃ t : TI, (∀ s H C cl fp, PI (X.blk s H scope (compEnvC scope cl C X.env) fp) tg iter t) ∧ KI X WN f t := by
  have c := fun z => (h z).ex
  refine ⟨fun σ H Q => ∀ z, Classical.choose (c z) σ H Q, fun s H C cl fp => ⟨fun pins s' σ H' Q I h => (Classical.choose_spec (c (s, H, C, cl, fp))).1.run pins s' σ H' Q I (h _)⟩, ?_⟩
  intro σ H env F R Q E Q' s f q x z
  exact (Classical.choose_spec (c z)).2 σ H env F R Q E Q' s f q x
/-- the innermost loop -/
theorem lc_run {g : GF} {ft : BF} {fe : DF} {ws vs : List Nat} {G : TG} {TT' : TT} {TE' : TE} (hw : ∀ i ∈ ws, i ∈ vs) (kg : KG X ws g G) (kt : KT X WN ft TT') (ke : KE X WN fe TE') {J : It} {ds acc0 : List D} {F1 H1 : Hp} {σ : L2.St} {env0 : En} {R : Rs} {Dd : Addr}
    {Qd : List D → En → Prop} {End : Hp → Prop} (gv : Gives X J ds F1) (st1 : StA (tx X) F1 H1 σ env0 [] ((.ref Dd, .lst .own acc0) :: R)) (ew0 : wipeE env0 vs = env0) (q1 : lcL vs g ft fe ds acc0 env0 Qd)
    (hend : ∀ acc env F' H', Same F1 F' → StA (tx X) F' H' σ env [] ((.ref Dd, .lst .own acc) :: R) → Qd acc env → End H') :
    ∃ Wv : Nat → Nat → Hp → Prop, (∃ m, Wv 0 m H1) ∧ ∀ i m H, Wv i m H → (J.stop i H ∧ End H) ∨ (J.go i H ∧ ∃ Nx : Hp → Prop, (∀ H', Nx H' → ∃ m', m' < m ∧ Wv (i + 1) m' H') ∧
      ∀ x H', J.yld i H x H' → G x (L2.wipe σ vs) H' fun σ2 H2 => L2.wipe σ2 vs = L2.wipe σ vs ∧ TT' σ2 H2 fun b H3 =>
        if b = true then TE' σ2 H3 fun y H4 => ∃ acc, H4 Dd = some (.lst acc) ∧ acc.length < sizeLine ∧ Nx (upd H4 Dd (.lst (acc ++ [y]))) else Nx H3) := by
  refine ⟨fun i m H => i + m = ds.length ∧ ∃ acc env F', Same F1 F' ∧ StA (tx X) F' H σ env [] ((.ref Dd, .lst .own acc) :: R) ∧ wipeE env vs = env ∧
      lcL vs g ft fe (ds.drop i) acc env Qd, ⟨ds.length, Nat.zero_add _, acc0, _, F1, Same.refl _, st1, ew0, q1⟩, ?_⟩
  rintro i m H ⟨im, acc, env, F2, s2, st2, ew, q2⟩
  by_cases hlt : i < ds.length
  · have hd : ds.drop i = ds[i] :: ds.drop (i + 1) := List.drop_eq_getElem_cons hlt
    rw [hd] at q2
    obtain ⟨go, yl⟩ := gv.1 i ds[i] (List.getElem?_eq_getElem hlt) F2 H s2 st2.same
    refine .inr ⟨go, fun H' => i + 1 + (m - 1) = ds.length ∧ ∃ acc env F', Same F1 F' ∧ StA (tx X) F' H' σ env [] ((.ref Dd, .lst .own acc) :: R) ∧ wipeE env vs = env ∧
      lcL vs g ft fe (ds.drop (i + 1)) acc env Qd, fun H' h => ⟨m - 1, by omega, h⟩, fun v H' y => ?_⟩
    obtain ⟨F3, g3, r3⟩ := yl v H' y
    have st3 : StA (tx X) F3 H' (L2.wipe σ vs) env [] ((v, ds[i]) :: (.ref Dd, .lst .own acc) :: R) := by
      have h := StA.push (StA.wiped (StA.gr st2 g3) vs) r3
      rw [ew] at h
      exact h
    refine kg (L2.wipe σ vs) H' env F3 ((.ref Dd, .lst .own acc) :: R) v ds[i] _ _ st3 q2 fun σ4 e4 H4 F4 s4 a4 st4 q4 => ?_
    have hwq : L2.wipe σ4 vs = L2.wipe σ vs := by
      rw [wipe_eq (vs := vs) a4.1 fun i hi => a4.2 i fun m => hi (hw i m), wipe_wipe]
    refine ⟨hwq, ?_⟩
    refine kt σ4 H4 e4 F4 ((.ref Dd, .lst .own acc) :: R) _ EN _ st4 q4 (fun b e5 H5 F5 s5 st5 q5 => ?_) ExK.no
    have s15 := ((s2.trans g3.f).trans s4).trans s5
    cases b with
    | false => exact ⟨by omega, acc, wipeE e5 vs, F5, s15, StA.unwiped st5 hwq, wipeE_wipeE _ _, q5⟩
    | true =>
      refine ke σ4 H5 e5 F5 ((.ref Dd, .lst .own acc) :: R) _ EN _ st5 q5 (fun y d e6 H6 F6 s6 st6 q6 => ?_) ExK.no
      obtain ⟨vs', ⟨hv, hl⟩, st7⟩ := StA.liftE (P := fun vs' : List V => H6 Dd = some (.lst vs') ∧ vs'.length = acc.length) (FF := fun _ => F6) (HH := fun vs' => upd H6 Dd (.lst (vs' ++ [y]))) (LL := fun _ => [])
          (G := fun _ => (.ref Dd, .lst .own (acc ++ [d])) :: R) st6 fun Z h => by
        have h1 := h.perm (rs' := (.ref Dd, .lst .own acc) :: (y, d) :: (R ++ Z)) (.swap ..)
        obtain ⟨vs', e1, e2, h2⟩ := h1.openL
        refine ⟨vs', ⟨e1, e2⟩, ?_⟩
        have h3 : Abs (tx X) F6 H6 [Dd] ((vs' ++ [y]).zip (acc ++ [d]) ++ (R ++ Z)) := h2.perm (by
          rw [List.zip_append e2, List.append_assoc]
          exact .refl _)
        exact (h3.write).closeL upd_same (by simp [e2])
      refine ⟨vs', hv, by rw [hl]; exact q6.1, by omega, acc ++ [d], wipeE e6 vs, F6, s15.trans s6, StA.unwiped st7 hwq, wipeE_wipeE _ _, q6.2⟩
  · have e : i = ds.length := by omega
    subst e
    rw [List.drop_length] at q2
    exact .inl ⟨gv.2 F2 H s2 st2.same, hend _ env F2 H s2 st2 q2⟩
theorem de_lc {tg iter : Expr} {ifs : List Expr} {scope : Scope} {own : List (Str × Nat)} {fi : IF} {g : GF} {ft : BF} {ws : List Nat} (hc : X.calm = true) (hN : X.N.Nodup) (hi : DI X W tg iter fi) (ok : BlkOk X.N X.env.scope scope own)
    (hw : ∀ i ∈ ws, i ∈ own.map (·.2))
    (hg : ∀ z : BlkIx, DG (Cx.bl X scope z) ws tg g) (ht : ∀ z : BlkIx, DTs (Cx.bl X scope z) WN ifs ft) (he : ∀ z : BlkIx, DE (Cx.bl X scope z) WN e fe)
    (hs : ∀ x, foldedSetIterable iter X.env x = pure x := by intro _; rfl) : DE X W (.ListComp e [⟨tg, iter, ifs, 0⟩] scope pos) (dLc (own.map (·.2)) fi g ft fe) := by
  obtain ⟨wi, p, k⟩ := hi.ex
  obtain ⟨G, pg, kg⟩ := dg_all hg
  obtain ⟨TT', pt, kt⟩ := dt_all ht
  obtain ⟨TE', pe', ke⟩ := de_all he
  have P := pe_lc (pos := pos) hc hN p ok pg pt pe' hs
  revert hw P
  generalize own.map (·.2) = vs
  intro hw P
  refine ⟨_, P, fun σ H env F R Q E Q' s f q x => ?_⟩
  refine k σ H env F R _ E _ s f (fun J ds e1 H1 F1 s1 st1 gv q1 => ?_) x
  intro Dd hD
  have base : StA (tx X) F1 (upd H1 Dd (.lst [])) σ (wipeE e1 vs) [] ((.ref Dd, .lst .own []) :: R) := (StA.wipe st1 vs).lift fun Z h => Abs.newL (vs := []) (ds := []) h rfl hD
  exact lc_run hw kg kt ke gv base (wipeE_wipeE _ _) q1 fun acc env F' H' s' st' q' => q _ _ env H' F' (s1.trans s') st' q'
/-- two fors -/
def lcL2 (vs vs1 : List Nat) (g : GF) (ft : BF) (fi1 : IF) (g1 : GF) (ft1 : BF) (fe : DF) : List D → List D → En → (List D → En → Prop) → Prop
  | [], acc, env, Q => Q acc env
  | d :: ds, acc, env, Q => g d env fun e1 => ft e1 (fun b e2 => if b = true then fi1 e2 (fun ds1 e3 => lcL vs1 g1 ft1 fe ds1 acc (wipeE e3 vs1) fun acc' e4 => lcL2 vs vs1 g ft fi1 g1 ft1 fe ds acc' (wipeE e4 vs) Q) EN
      else lcL2 vs vs1 g ft fi1 g1 ft1 fe ds acc (wipeE e2 vs) Q) EN
def dLc2 (vs vs1 : List Nat) (fi : IF) (g : GF) (ft : BF) (fi1 : IF) (g1 : GF) (ft1 : BF) (fe : DF) : DF := fun env Q E => fi env (fun ds e1 => lcL2 vs vs1 g ft fi1 g1 ft1 fe ds [] (wipeE e1 vs) fun acc e2 => Q (.lst .own acc) e2) E
theorem de_lc2 {tg iter tg1 iter1 : Expr} {ifs ifs1 : List Expr} {scope : Scope} {own : List (Str × Nat)} {vs1 : List Nat} {fi fi1 : IF} {g g1 : GF} {ft ft1 : BF} {ws ws1 : List Nat} (hc : X.calm = true) (hN : X.N.Nodup) (hi : DI X W tg iter fi) (ok : BlkOk X.N X.env.scope scope own)
    (hv : ∀ i ∈ vs1, i ∈ own.map (·.2)) (hw : ∀ i ∈ ws, i ∈ own.map (·.2)) (hw1 : ∀ i ∈ ws1, i ∈ vs1)
    (hg : ∀ z : BlkIx, DG (Cx.bl X scope z) ws tg g) (ht : ∀ z : BlkIx, DTs (Cx.bl X scope z) WN ifs ft) (hi1 : ∀ z : BlkIx, DI (Cx.bl X scope z) WN tg1 iter1 fi1)
    (hg1 : ∀ z : BlkIx, DG (Cx.bl X scope z) ws1 tg1 g1) (ht1 : ∀ z : BlkIx, DTs (Cx.bl X scope z) WN ifs1 ft1) (he : ∀ z : BlkIx, DE (Cx.bl X scope z) WN e fe)
    (hs : ∀ x, foldedSetIterable iter X.env x = pure x := by intro _; rfl) (hs1 : ∀ env x, foldedSetIterable iter1 env x = pure x := by intro _ _; rfl) :
    DE X W (.ListComp e [⟨tg, iter, ifs, 0⟩, ⟨tg1, iter1, ifs1, 0⟩] scope pos) (dLc2 (own.map (·.2)) vs1 fi g ft fi1 g1 ft1 fe) := by
  obtain ⟨wi, p, k⟩ := hi.ex
  obtain ⟨G, pg, kg⟩ := dg_all hg
  obtain ⟨TT', pt, kt⟩ := dt_all ht
  obtain ⟨wi1, pi1, ki1⟩ := di_all hi1
  obtain ⟨G1, pg1, kg1⟩ := dg_all hg1
  obtain ⟨TT1, pt1, kt1⟩ := dt_all ht1
  obtain ⟨TE', pe', ke⟩ := de_all he
  have P := pe_lc2 (pos := pos) hc hN p ok hv pg pt pi1 pg1 pt1 pe' hs hs1
  revert hv hw P
  generalize own.map (·.2) = vs
  intro hv hw P
  refine ⟨_, P, fun σ H env F R Q E Q' s f q x => ?_⟩
  refine k σ H env F R _ E _ s f (fun J ds e1 H1 F1 s1 st1 gv q1 => ?_) x
  intro Dd hD
  have base : StA (tx X) F1 (upd H1 Dd (.lst [])) σ (wipeE e1 vs) [] ((.ref Dd, .lst .own []) :: R) := (StA.wipe st1 vs).lift fun Z h => Abs.newL (vs := []) (ds := []) h rfl hD
  refine ⟨fun i m H => i + m = ds.length ∧ ∃ acc env F', Same F1 F' ∧ StA (tx X) F' H σ env [] ((.ref Dd, .lst .own acc) :: R) ∧ wipeE env vs = env ∧
      lcL2 vs vs1 g ft fi1 g1 ft1 fe (ds.drop i) acc env (fun acc e2 => Q (.lst .own acc) e2), ⟨ds.length, Nat.zero_add _, [], _, F1, Same.refl _, base, wipeE_wipeE _ _, q1⟩, ?_⟩
  rintro i m H ⟨im, acc, env, F2, s2, st2, ew, q2⟩
  by_cases hlt : i < ds.length
  · have hd : ds.drop i = ds[i] :: ds.drop (i + 1) := List.drop_eq_getElem_cons hlt
    rw [hd] at q2
    obtain ⟨go, yl⟩ := gv.1 i ds[i] (List.getElem?_eq_getElem hlt) F2 H s2 st2.same
    refine .inr ⟨go, fun H' => i + 1 + (m - 1) = ds.length ∧ ∃ acc env F', Same F1 F' ∧ StA (tx X) F' H' σ env [] ((.ref Dd, .lst .own acc) :: R) ∧ wipeE env vs = env ∧
      lcL2 vs vs1 g ft fi1 g1 ft1 fe (ds.drop (i + 1)) acc env (fun acc e2 => Q (.lst .own acc) e2), fun H' h => ⟨m - 1, by omega, h⟩, fun v H' y => ?_⟩
    obtain ⟨F3, g3, r3⟩ := yl v H' y
    have st3 : StA (tx X) F3 H' (L2.wipe σ vs) env [] ((v, ds[i]) :: (.ref Dd, .lst .own acc) :: R) := by
      have h := StA.push (StA.wiped (StA.gr st2 g3) vs) r3
      rw [ew] at h
      exact h
    refine kg (L2.wipe σ vs) H' env F3 ((.ref Dd, .lst .own acc) :: R) v ds[i] _ _ st3 q2 fun σ4 e4 H4 F4 s4 a4 st4 q4 => ?_
    have hwq : L2.wipe σ4 vs = L2.wipe σ vs := by
      rw [wipe_eq (vs := vs) a4.1 fun i hi => a4.2 i fun m => hi (hw i m), wipe_wipe]
    refine ⟨hwq, ?_⟩
    refine kt σ4 H4 e4 F4 ((.ref Dd, .lst .own acc) :: R) _ EN _ st4 q4 (fun b e5 H5 F5 s5 st5 q5 => ?_) ExK.no
    have s15 := ((s2.trans g3.f).trans s4).trans s5
    cases b with
    | false => exact ⟨by omega, acc, wipeE e5 vs, F5, s15, StA.unwiped st5 hwq, wipeE_wipeE _ _, q5⟩
    | true =>
      refine ki1 σ4 H5 e5 F5 ((.ref Dd, .lst .own acc) :: R) _ EN _ st5 q5 (fun J1 ds1 e6 H6 F6 s6 st6 gv6 q6 => ?_) ExK.no
      have st6' : StA (tx X) F6 H6 σ4 (wipeE e6 vs1) [] ((.ref Dd, .lst .own acc) :: R) := StA.wipe st6 vs1
      exact lc_run hw1 kg1 kt1 ke gv6 st6' (wipeE_wipeE _ _) q6 fun acc' e7 F7 H7 s7 st7 q7 =>
        ⟨by omega, acc', wipeE e7 vs, F7, (s15.trans s6).trans s7, StA.unwiped st7 hwq, wipeE_wipeE _ _, q7⟩
  · have e : i = ds.length := by omega
    subst e
    rw [List.drop_length] at q2
    exact .inl ⟨gv.2 F2 H s2 st2.same, q _ _ env H F2 (s1.trans s2) st2 q2⟩
end
end Mf
set_option Elab.async false
set_option linter.all false
/-! Operations by value: trees as the library's data; ==, <, in, +, [], of trees. -/
namespace Mf
open PySem PySem.Spec PyProof.Rows L2

mutual
def toPy : D → PyData
  | .non => .none
  | .bl b => .bool b
  | .int i => .int i
  | .str x => .str x
  | .lst _ xs => .list (toPys xs)
  | .tup xs => .tuple (toPys xs)
  | _ => .none
def toPys : List D → List PyData
  | [] => []
  | d :: r => toPy d :: toPys r
end
theorem toPys_eq : ∀ xs : List D, toPys xs = xs.map toPy
  | [] => rfl
  | d :: r => by rw [toPys, toPys_eq r]; rfl
/-- plain data of nesting at most n -/
def Pl : Nat → D → Bool
  | _, .non => true
  | _, .bl _ => true
  | _, .int _ => true
  | _, .str _ => true
  | n + 1, .lst _ xs => xs.all (Pl n)
  | n + 1, .tup xs => xs.all (Pl n)
  | _, _ => false
theorem Pl.plain : ∀ {n : Nat} {d : D}, Pl n d = true → (toPy d).plain = true ∧ (toPy d).depth ≤ n := by
  intro n
  induction n with
  | zero =>
    intro d h
    cases d <;> simp [Pl] at h <;> simp [toPy, PyData.plain, PyData.depth]
  | succ n ih =>
    have key : ∀ xs : List D, xs.all (Pl n) = true → PyData.plainAll (toPys xs) = true ∧ PyData.depthAll (toPys xs) ≤ n := by
      intro xs
      induction xs with
      | nil => intro _; exact ⟨rfl, by simp [toPys, PyData.depthAll]⟩
      | cons d r ih2 =>
        intro h
        rw [List.all_cons, Bool.and_eq_true] at h
        have h1 := ih h.1
        have h2 := ih2 h.2
        refine ⟨by rw [toPys, PyData.plainAll, h1.1, h2.1]; rfl, ?_⟩
        rw [toPys, PyData.depthAll]
        omega
    intro d h
    cases d with
    | lst m xs =>
      have := key xs h
      exact ⟨this.1, by rw [toPy, PyData.depth]; omega⟩
    | tup xs =>
      have := key xs h
      exact ⟨this.1, by rw [toPy, PyData.depth]; omega⟩
    | non => simp [toPy, PyData.plain, PyData.depth]
    | bl b => simp [toPy, PyData.plain, PyData.depth]
    | int i => simp [toPy, PyData.plain, PyData.depth]
    | str x => simp [toPy, PyData.plain, PyData.depth]
    | _ => simp [Pl] at h
theorem Pl.plains {n : Nat} {xs : List D} (h : xs.all (Pl n) = true) : PyData.plainAll (toPys xs) = true ∧ PyData.depthAll (toPys xs) ≤ n := by
  have := Pl.plain (n := n + 1) (d := .tup xs) h
  refine ⟨this.1, ?_⟩
  have h2 := this.2
  rw [toPy, PyData.depth] at h2
  omega

section
variable {T : Tx} {F H : Hp}
theorem RO.dp (hS : Same F H) : ∀ (n : Nat) {v : V} {d : D} {A : List Addr}, Pl n d = true → RO T F H v d A → Dp T.K H v (toPy d) := by
  intro n
  induction n with
  | zero =>
    intro v d A h r
    cases r <;> simp [Pl] at h
    · exact .non
    · exact .bl _
    · exact .int _
    · exact .str _
  | succ n ih =>
    have key : ∀ (vs : List V) (ds : List D) (A : List Addr), ds.all (Pl n) = true → ROs T F H vs ds A → DpAll T.K H vs (toPys ds) := by
      intro vs ds
      induction ds generalizing vs with
      | nil => intro A _ r; cases r; exact .nil
      | cons d ds ih2 =>
        intro A h r
        rw [List.all_cons, Bool.and_eq_true] at h
        cases r with
        | cons r1 r2 => exact .cons (ih h.1 r1) (ih2 _ _ h.2 r2)
    intro v d A h r
    cases r with
    | non => exact .non
    | bl b => exact .bl _
    | int i => exact .int _
    | str x => exact .str _
    | lstO e r => exact .lst (SqL_of e) (key _ _ _ h r)
    | lstF m e r => exact .lst (SqL_of (hS _ _ e)) (key _ _ _ h r)
    | tup e r => exact .tup (SqT_of (hS _ _ e)) (key _ _ _ h r)
    | _ => simp [Pl] at h
theorem ROs.dps (hS : Same F H) (n : Nat) : ∀ {vs : List V} {ds : List D} {A : List Addr}, ds.all (Pl n) = true → ROs T F H vs ds A → DpAll T.K H vs (toPys ds)
  | _, _, _, _, .nil => .nil
  | _, _, _, h, .cons r1 r2 => by
    rw [List.all_cons, Bool.and_eq_true] at h
    exact .cons (r1.dp hS n h.1) (ROs.dps hS n h.2 r2)
end

/-- == -/
def eqD (x y : D) : Bool := PyData.eqv (toPy x) (toPy y)
/-- < of alike data -/
def ltD (x y : D) : Bool := PySem.W.dataLt (toPy x) (toPy y)
def alD (x y : D) : Bool := PySem.W.alike (toPy x) (toPy y)

section
variable {X : Cx}
theorem RO.rd {pins : List (Addr × Obj)} {s : Shared} {σ : L2.St} {H F : Hp} {v : V} {u : Value} {d : D} {A : List Addr} {n : Nat} (I : Inv X pins σ H s) (hS : Same F H) (h : Pl n d = true) (r : RO (tx X) F H v d A) (rv : RelV v u) : ∃ as, Reads s.heap u (toPy d) as :=
  Dp.reads I (toPy d) v u (r.dp hS n h) rv

/-! ### making rules -/
theorem OpR.or {f : Value → Value → Sem Value} {r1 r2 : R2} (h1 : OpR X f r1) (h2 : OpR X f r2) : OpR X f (fun x y H Q => r1 x y H Q ∨ r2 x y H Q) := by
  intro pins s σ H x y v u Q I rx ry h
  rcases h with h | h
  · exact h1 pins s σ H x y v u Q I rx ry h
  · exact h2 pins s σ H x y v u Q I rx ry h
theorem OpD.or {f : Value → Value → Sem Value} {r1 r2 r : OpF} (h1 : OpD X f r1) (h2 : OpD X f r2) (k : ∀ x y Q, r x y Q → r1 x y Q ∨ r2 x y Q) : OpD X f r := by
  obtain ⟨q1, o1, k1⟩ := h1.ex
  obtain ⟨q2, o2, k2⟩ := h2.ex
  refine ⟨_, OpR.or o1 o2, fun F H x y dx dy A B Q Q' hS rx ry h hn => ?_⟩
  rcases k dx dy Q h with h | h
  · exact .inl (k1 F H x y dx dy A B Q Q' hS rx ry h hn)
  · exact .inr (k2 F H x y dx dy A B Q Q' hS rx ry h hn)
/-- a rule whose answer owns nothing, the heap as it was, walked in the model directly -/
theorem OpD.flat {f : Value → Value → Sem Value} {r : OpF} (g : D → D → Option D)
    (run : ∀ (pins : List (Addr × Obj)) (s : Shared) (σ : L2.St) (F H : Hp) (x y : V) (dx dy z : D) (A B : List Addr) (v u : Value) (Q : VK), Inv X pins σ H s → Same F H → RO (tx X) F H x dx A → RO (tx X) F H y dy B → RelV x v → RelV y u → g dx dy = some z →
      (∀ zv, RO (tx X) F H zv z [] → Q zv H) → wpAny (model X.prog X.w) X.A (f v u) (EP X pins σ Q) X.xe s)
    (k : ∀ x y Q, r x y Q → ∃ z, g x y = some z ∧ Q z) : OpD X f r := by
  refine ⟨fun x y H Q => ∃ F dx dy z A B, Same F H ∧ RO (tx X) F H x dx A ∧ RO (tx X) F H y dy B ∧ g dx dy = some z ∧ ∀ zv, RO (tx X) F H zv z [] → Q zv H, ?_, ?_⟩
  · intro pins s σ H x y v u Q I rx ry ⟨F, dx, dy, z, A, B, hS, r1, r2, hg, q⟩
    exact run pins s σ F H x y dx dy z A B v u Q I hS r1 r2 rx ry hg q
  · intro F H x y dx dy A B Q Q' hS rx ry h hn
    obtain ⟨z, hg, q⟩ := k dx dy Q h
    exact ⟨F, dx, dy, z, A, B, hS, rx, ry, hg, fun zv r => hn zv z [] H F (Gr.refl hS) r .nil (fun _ m => nomatch m) q⟩

/-! ### ints -/
def oInt (c : Int → Int → Prop) (g : Int → Int → D) : OpF := fun x y Q => match x, y with
  | .int i, .int j => c i j ∧ Q (g i j)
  | _, _ => False
theorem opd_int {f : Value → Value → Sem Value} {c : Int → Int → Prop} {g : Int → Int → D} {gv : Int → Int → V} (h : OpR X f (rI c gv)) (hg : ∀ i j F H, RO (tx X) F H (gv i j) (g i j) []) : OpD X f (oInt c g) := by
  refine ⟨_, h, fun F H x y dx dy A B Q Q' hS rx ry h hn => ?_⟩
  cases dx with
  | int i =>
    cases dy with
    | int j =>
      obtain ⟨rfl, rfl⟩ := rx.int_inv
      obtain ⟨rfl, rfl⟩ := ry.int_inv
      exact ⟨i, j, rfl, rfl, h.1, hn _ _ [] H F (Gr.refl hS) (hg i j F H) .nil (fun _ m => nomatch m) h.2⟩
    | _ => exact h.elim
  | _ => exact h.elim
theorem rI0_of {f : Value → Value → Sem Value} {g : Int → Int → V} (h : OpR X f (rI0 g)) : OpR X f (rI (fun _ _ => True) g) := by
  intro pins s σ H x y v u Q I rx ry ⟨i, j, e1, e2, _, q⟩
  exact h pins s σ H x y v u Q I rx ry ⟨i, j, e1, e2, q⟩
def tt2 : Int → Int → Prop := fun _ _ => True
theorem od_addI : OpD X (binaryOp .Add) (oInt tt2 fun i j => .int (i + j)) := opd_int (rI0_of op_add) fun _ _ _ _ => .int _
theorem od_subI : OpD X (binaryOp .Sub) (oInt tt2 fun i j => .int (i - j)) := opd_int (rI0_of op_sub) fun _ _ _ _ => .int _
theorem od_mulI : OpD X (binaryOp .Mult) (oInt CMul fun i j => .int (i * j)) := opd_int op_mul fun _ _ _ _ => .int _
theorem od_divI : OpD X (binaryOp .FloorDiv) (oInt CDiv fun i j => .int (i / j)) := opd_int op_fdiv fun _ _ _ _ => .int _
theorem od_modI : OpD X (binaryOp .Mod) (oInt (fun _ j => 0 < j) fun i j => .int (i % j)) := opd_int op_mod fun _ _ _ _ => .int _
theorem od_powI : OpD X (binaryOp .Pow) (oInt CPow fun i j => .int (i ^ j.toNat)) := opd_int op_pow fun _ _ _ _ => .int _
def oSub : OpF := oInt tt2 fun i j => .int (i - j)
def oDiv : OpF := oInt CDiv fun i j => .int (i / j)
def oMod : OpF := oInt (fun _ j => 0 < j) fun i j => .int (i % j)
def oPow : OpF := oInt CPow fun i j => .int (i ^ j.toNat)
theorem od_sub : OpD X (binaryOp .Sub) oSub := od_subI
theorem od_div : OpD X (binaryOp .FloorDiv) oDiv := od_divI
theorem od_mod : OpD X (binaryOp .Mod) oMod := od_modI
theorem od_pow : OpD X (binaryOp .Pow) oPow := od_powI

/-! ### + -/
def oAddS : OpF := fun x y Q => match x, y with
  | .str i, .str j => i.length + j.length ≤ sizeLine ∧ Q (.str (i ++ j))
  | _, _ => False
theorem od_addS : OpD X (binaryOp .Add) oAddS := by
  refine ⟨_, op_add_str, fun F H x y dx dy A B Q Q' hS rx ry h hn => ?_⟩
  cases dx with
  | str i =>
    cases dy with
    | str j =>
      obtain ⟨rfl, rfl⟩ := rx.str_inv
      obtain ⟨rfl, rfl⟩ := ry.str_inv
      exact ⟨i, j, rfl, rfl, h.1, hn _ _ [] H F (Gr.refl hS) (.str _) .nil (fun _ m => nomatch m) h.2⟩
    | _ => exact h.elim
  | _ => exact h.elim
theorem ROs.app {T : Tx} {F H : Hp} {vs ws : List V} {ds es : List D} {A B : List Addr} (h : ROs T F H vs ds A) (k : ROs T F H ws es B) : ROs T F H (vs ++ ws) (ds ++ es) (A ++ B) := by
  have h1 := RL.of_zip h
  have h2 := RL.of_zip k
  refine RL.to_zip (by simp [h1.1, h2.1]) ?_
  rw [List.zip_append h1.1]
  exact h1.2.app h2.2
/-- a new list, a new tuple of things that own nothing -/
theorem new_list {F H : Hp} {Q : D → Prop} {Q' : VK} (hS : Same F H) {vs : List V} {ds : List D} (r : ROs (tx X) F H vs ds []) (hn : New X F H Q Q') (q : Q (.lst .own ds)) {p : Addr} (hp : H p = none) : Q' (.ref p) (upd H p (.lst vs)) := by
  refine hn _ _ [p] _ F (Gr.new hS hp) (.lstO upd_same (r.free rfl)) (by simp) (fun a m => ?_) q
  have e : a = p := by simpa using m
  subst e
  exact ⟨Same.free hS hp, hp⟩
theorem new_tup {F H : Hp} {Q : D → Prop} {Q' : VK} (hS : Same F H) {vs : List V} {ds : List D} (r : ROs (tx X) F H vs ds []) (hn : New X F H Q Q') (q : Q (.tup ds)) {p : Addr} (hp : H p = none) : Q' (.ref p) (upd H p (.tup vs)) := by
  have g := Gr.newF hS (o := .tup vs) hp
  exact hn _ _ [] _ _ g (.tup upd_same (r.mono g.f g.h)) .nil (fun _ m => nomatch m) q
/-- a list's items that own nothing -/
theorem RO.lst_items {F H : Hp} (hS : Same F H) {T : Tx} {v : V} {m : Mk} {ds : List D} {A : List Addr} (r : RO T F H v (.lst m ds) A) (n : nowns ds = true) : ∃ a vs, v = .ref a ∧ H a = some (.lst vs) ∧ ROs T F H vs ds [] ∧ vs.length = ds.length := by
  cases r with
  | lstO e r =>
    have q := r.none_own n
    subst q
    exact ⟨_, _, rfl, e, r, r.len⟩
  | lstF _ e r => exact ⟨_, _, rfl, hS _ _ e, r, r.len⟩
theorem RO.tup_items {F H : Hp} (hS : Same F H) {T : Tx} {v : V} {ds : List D} {A : List Addr} (r : RO T F H v (.tup ds) A) (n : nowns ds = true) : ∃ a vs, v = .ref a ∧ H a = some (.tup vs) ∧ F a = some (.tup vs) ∧ ROs T F H vs ds [] ∧ vs.length = ds.length := by
  cases r with
  | tup e r =>
    have q := r.none_own n
    subst q
    exact ⟨_, _, rfl, hS _ _ e, e, r, r.len⟩
def oAddL : OpF := fun x y Q => match x, y with
  | .lst _ xs, .lst _ ys => nowns xs = true ∧ nowns ys = true ∧ xs.length + ys.length ≤ sizeLine ∧ Q (.lst .own (xs ++ ys))
  | _, _ => False
theorem od_addL : OpD X (binaryOp .Add) oAddL := by
  refine ⟨_, op_cat, fun F H x y dx dy A B Q Q' hS rx ry h hn => ?_⟩
  cases dx with
  | lst m xs =>
    cases dy with
    | lst n ys =>
      obtain ⟨h1, h2, h3, h4⟩ := h
      obtain ⟨a, vs, rfl, e1, r1, l1⟩ := rx.lst_items hS h1
      obtain ⟨b, ws, rfl, e2, r2, l2⟩ := ry.lst_items hS h2
      exact ⟨a, b, vs, ws, rfl, rfl, e1, e2, by omega, fun p hp => new_list hS (r1.app r2) hn h4 hp⟩
    | _ => exact h.elim
  | _ => exact h.elim
def oAddT : OpF := fun x y Q => match x, y with
  | .tup xs, .tup ys => nowns xs = true ∧ nowns ys = true ∧ xs.length + ys.length ≤ sizeLine ∧ Q (.tup (xs ++ ys))
  | _, _ => False
theorem od_addT : OpD X (binaryOp .Add) oAddT := by
  refine ⟨_, op_catA, fun F H x y dx dy A B Q Q' hS rx ry h hn => ?_⟩
  cases dx with
  | tup xs =>
    cases dy with
    | tup ys =>
      obtain ⟨h1, h2, h3, h4⟩ := h
      obtain ⟨a, vs, rfl, e1, f1, r1, l1⟩ := rx.tup_items hS h1
      obtain ⟨b, ws, rfl, e2, f2, r2, l2⟩ := ry.tup_items hS h2
      refine ⟨a, b, vs, ws, rfl, rfl, SqT_of e1, SqT_of e2, by omega, fun ev => ?_, fun ev ew => ?_, fun _ _ p hp => new_tup hS (r1.app r2) hn h4 hp⟩
      · subst ev
        have ex : xs = [] := List.eq_nil_of_length_eq_zero l1.symm
        subst ex
        exact hn _ _ [] H F (Gr.refl hS) (.tup f2 r2) .nil (fun _ m => nomatch m) h4
      · subst ew
        have ex : ys = [] := List.eq_nil_of_length_eq_zero l2.symm
        subst ex
        rw [List.append_nil] at h4
        exact hn _ _ [] H F (Gr.refl hS) (.tup f1 r1) .nil (fun _ m => nomatch m) h4
    | _ => exact h.elim
  | _ => exact h.elim
def oAdd : OpF := fun x y Q => match x, y with
  | .int i, .int j => Q (.int (i + j))
  | .str i, .str j => i.length + j.length ≤ sizeLine ∧ Q (.str (i ++ j))
  | .lst _ xs, .lst _ ys => nowns xs = true ∧ nowns ys = true ∧ xs.length + ys.length ≤ sizeLine ∧ Q (.lst .own (xs ++ ys))
  | .tup xs, .tup ys => nowns xs = true ∧ nowns ys = true ∧ xs.length + ys.length ≤ sizeLine ∧ Q (.tup (xs ++ ys))
  | _, _ => False
theorem od_add : OpD X (binaryOp .Add) oAdd := by
  refine OpD.or (OpD.or od_addI od_addS (r := fun x y Q => oInt tt2 (fun i j => .int (i + j)) x y Q ∨ oAddS x y Q) fun _ _ _ h => h) (OpD.or od_addL od_addT (r := fun x y Q => oAddL x y Q ∨ oAddT x y Q) fun _ _ _ h => h) fun x y Q h => ?_
  cases x <;> cases y <;> first | exact h.elim | exact .inl (.inl ⟨trivial, h⟩) | exact .inl (.inr h) | exact .inr (.inl h) | exact .inr (.inr h)
/-! ### * -/
def oMulL : OpF := fun x y Q => match x, y with
  | .lst _ xs, .int k => nowns xs = true ∧ -(2 ^ 63) ≤ k ∧ k < 2 ^ 63 ∧ xs.length * k.toNat ≤ sizeLine ∧ Q (.lst .own (List.replicate k.toNat xs).flatten)
  | _, _ => False
theorem ROs.rep {T : Tx} {F H : Hp} {vs : List V} {ds : List D} (h : ROs T F H vs ds []) : ∀ n : Nat, ROs T F H (List.replicate n vs).flatten (List.replicate n ds).flatten []
  | 0 => .nil
  | n + 1 => by
    rw [List.replicate_succ, List.replicate_succ, List.flatten_cons, List.flatten_cons]
    exact h.app (ROs.rep h n)
theorem od_mulL : OpD X (binaryOp .Mult) oMulL := by
  refine ⟨_, op_rep, fun F H x y dx dy A B Q Q' hS rx ry h hn => ?_⟩
  cases dx with
  | lst m xs =>
    cases dy with
    | int k =>
      obtain ⟨h1, h2, h3, h4, h5⟩ := h
      obtain ⟨a, vs, rfl, e1, r1, l1⟩ := rx.lst_items hS h1
      obtain ⟨rfl, rfl⟩ := ry.int_inv
      exact ⟨a, k, vs, rfl, rfl, e1, h2, h3, by rw [l1]; exact h4, fun p hp => new_list hS (r1.rep _) hn h5 hp⟩
    | _ => exact h.elim
  | _ => exact h.elim
def oMul : OpF := fun x y Q => match x, y with
  | .int i, .int j => CMul i j ∧ Q (.int (i * j))
  | .lst _ xs, .int k => nowns xs = true ∧ -(2 ^ 63) ≤ k ∧ k < 2 ^ 63 ∧ xs.length * k.toNat ≤ sizeLine ∧ Q (.lst .own (List.replicate k.toNat xs).flatten)
  | _, _ => False
theorem od_mul : OpD X (binaryOp .Mult) oMul := by
  refine OpD.or od_mulI od_mulL fun x y Q h => ?_
  cases x <;> cases y <;> first | exact h.elim | exact .inl h | exact .inr h

/-! ### == and the order -/
def oEq : OpF := fun x y Q => Pl 9 x = true ∧ Pl 9 y = true ∧ Q (.bl (eqD x y))
def oNe : OpF := fun x y Q => Pl 9 x = true ∧ Pl 9 y = true ∧ Q (.bl (!eqD x y))
theorem od_eq (hu : X.A.units + 100 < cLine) : OpD X (compareOp .Eq) oEq := by
  refine OpD.flat (fun x y => if Pl 9 x = true ∧ Pl 9 y = true then some (.bl (eqD x y)) else none) (fun pins s σ F H x y dx dy z A B v u Q I hS r1 r2 rx ry hg q => ?_) fun x y Q h => ⟨_, if_pos ⟨h.1, h.2.1⟩, h.2.2⟩
  split at hg
  · rename_i hp
    cases hg
    obtain ⟨as, ra⟩ := r1.rd I hS hp.1 rx
    obtain ⟨bs, rb⟩ := r2.rd I hS hp.2 ry
    have d1 := (Pl.plain hp.1)
    have d2 := (Pl.plain hp.2)
    exact PySem.SeqAt.eq_plain ra rb d1.1 d2.1 (by omega) ⟨.bl _, H, I, rfl, q _ (.bl _)⟩
  · cases hg
theorem od_ne (hu : X.A.units + 100 < cLine) : OpD X (compareOp .NotEq) oNe := by
  refine OpD.flat (fun x y => if Pl 9 x = true ∧ Pl 9 y = true then some (.bl (!eqD x y)) else none) (fun pins s σ F H x y dx dy z A B v u Q I hS r1 r2 rx ry hg q => ?_) fun x y Q h => ⟨_, if_pos ⟨h.1, h.2.1⟩, h.2.2⟩
  split at hg
  · rename_i hp
    cases hg
    obtain ⟨as, ra⟩ := r1.rd I hS hp.1 rx
    obtain ⟨bs, rb⟩ := r2.rd I hS hp.2 ry
    have d1 := (Pl.plain hp.1)
    have d2 := (Pl.plain hp.2)
    exact PySem.SeqAt.ne_plain ra rb d1.1 d2.1 (by omega) ⟨.bl _, H, I, rfl, q _ (.bl _)⟩
  · cases hg
def Cmpb (x y : D) : Prop := Pl 9 x = true ∧ Pl 9 y = true ∧ alD x y = true ∧ toPy x ≠ .none
def oLt : OpF := fun x y Q => Cmpb x y ∧ Q (.bl (ltD x y))
def oGt : OpF := fun x y Q => Cmpb x y ∧ Q (.bl (ltD y x))
def oLe : OpF := fun x y Q => Cmpb x y ∧ Q (.bl (!ltD y x))
def oGe : OpF := fun x y Q => Cmpb x y ∧ Q (.bl (!ltD x y))
open Classical in
theorem od_ord (hu : X.A.units + 100 < cLine) {op : CmpOp} (g : D → D → Bool)
    (h : ∀ {A : Around} {E : Value → Shared → Prop} {s : Shared} {a b : Value} {dx dy : D} {as bs : List Addr} {Q : Value → Shared → Prop}, Reads s.heap a (toPy dx) as → Reads s.heap b (toPy dy) bs → PySem.W.alike (toPy dx) (toPy dy) = true → toPy dx ≠ .none → A.units + min (toPy dx).depth (toPy dy).depth < cLine → Q (.bool (g dx dy)) s →
      wpAny (model X.prog X.w) A (compareOp op a b) Q E s) : OpD X (compareOp op) (fun x y Q => Cmpb x y ∧ Q (.bl (g x y))) := by
  refine OpD.flat (fun x y => if Cmpb x y then some (.bl (g x y)) else none) (fun pins s σ F H x y dx dy z A B v u Q I hS r1 r2 rx ry hg q => ?_) fun x y Q h => ⟨_, if_pos h.1, h.2⟩
  split at hg
  · rename_i hp
    cases hg
    obtain ⟨as, ra⟩ := r1.rd I hS hp.1 rx
    obtain ⟨bs, rb⟩ := r2.rd I hS hp.2.1 ry
    have d1 := (Pl.plain hp.1)
    have d2 := (Pl.plain hp.2.1)
    exact h ra rb hp.2.2.1 hp.2.2.2 (by omega) ⟨.bl _, H, I, rfl, q _ (.bl _)⟩
  · cases hg
theorem od_lt (hu : X.A.units + 100 < cLine) : OpD X (compareOp .Lt) oLt := od_ord hu (fun x y => ltD x y) fun ra rb h hn hu hq => PySem.W.lt_data ra rb h hn hu hq
theorem od_gt (hu : X.A.units + 100 < cLine) : OpD X (compareOp .Gt) oGt := od_ord hu (fun x y => ltD y x) fun ra rb h hn hu hq => PySem.W.gt_data ra rb h hn hu hq
theorem od_le (hu : X.A.units + 100 < cLine) : OpD X (compareOp .LtE) oLe := od_ord hu (fun x y => !ltD y x) fun ra rb h hn hu hq => PySem.W.le_data ra rb h hn hu hq
theorem od_ge (hu : X.A.units + 100 < cLine) : OpD X (compareOp .GtE) oGe := od_ord hu (fun x y => !ltD x y) fun ra rb h hn hu hq => PySem.W.ge_data ra rb h hn hu hq

/-! ### is -/
def isNon : D → Bool
  | .non => true
  | _ => false
def oIsNon : OpF := fun x y Q => match y with
  | .non => Q (.bl (isNon x))
  | _ => False
def oNotNon : OpF := fun x y Q => match y with
  | .non => Q (.bl (!isNon x))
  | _ => False
theorem RO.isNon {T : Tx} {F H : Hp} {v : V} {d : D} {A : List Addr} (r : RO T F H v d A) : decide (v = .non) = isNon d := by
  cases r <;> rfl
theorem od_isN : OpD X (compareOp .Is) oIsNon := by
  refine ⟨_, op_isN, fun F H x y dx dy A B Q Q' hS rx ry h hn => ?_⟩
  cases dy with
  | non =>
    obtain ⟨rfl, rfl⟩ := ry.non_inv
    exact ⟨rfl, hn _ _ [] H F (Gr.refl hS) (by rw [rx.isNon]; exact .bl _) .nil (fun _ m => nomatch m) h⟩
  | _ => exact h.elim
theorem od_notN : OpD X (compareOp .IsNot) oNotNon := by
  refine ⟨_, op_notN, fun F H x y dx dy A B Q Q' hS rx ry h hn => ?_⟩
  cases dy with
  | non =>
    obtain ⟨rfl, rfl⟩ := ry.non_inv
    exact ⟨rfl, hn _ _ [] H F (Gr.refl hS) (by rw [rx.isNon]; exact .bl _) .nil (fun _ m => nomatch m) h⟩
  | _ => exact h.elim
def oIsB : OpF := fun x y Q => match x, y with
  | .bl a, .bl b => Q (.bl (decide (a = b)))
  | _, _ => False
def oNotB : OpF := fun x y Q => match x, y with
  | .bl a, .bl b => Q (.bl (!decide (a = b)))
  | _, _ => False
theorem od_isB : OpD X (compareOp .Is) oIsB := by
  refine ⟨_, op_isBl, fun F H x y dx dy A B Q Q' hS rx ry h hn => ?_⟩
  cases dx with
  | bl a =>
    cases dy with
    | bl b =>
      obtain ⟨rfl, rfl⟩ := rx.bl_inv
      obtain ⟨rfl, rfl⟩ := ry.bl_inv
      exact ⟨a, b, rfl, rfl, hn _ _ [] H F (Gr.refl hS) (.bl _) .nil (fun _ m => nomatch m) h⟩
    | _ => exact h.elim
  | _ => exact h.elim
theorem od_notB : OpD X (compareOp .IsNot) oNotB := by
  refine ⟨_, op_notBl, fun F H x y dx dy A B Q Q' hS rx ry h hn => ?_⟩
  cases dx with
  | bl a =>
    cases dy with
    | bl b =>
      obtain ⟨rfl, rfl⟩ := rx.bl_inv
      obtain ⟨rfl, rfl⟩ := ry.bl_inv
      exact ⟨a, b, rfl, rfl, hn _ _ [] H F (Gr.refl hS) (.bl _) .nil (fun _ m => nomatch m) h⟩
    | _ => exact h.elim
  | _ => exact h.elim
def oIs : OpF := fun x y Q => match y with
  | .non => Q (.bl (isNon x))
  | .bl b => (match x with
    | .bl a => Q (.bl (decide (a = b)))
    | _ => False)
  | _ => False
def oIsNot : OpF := fun x y Q => match y with
  | .non => Q (.bl (!isNon x))
  | .bl b => (match x with
    | .bl a => Q (.bl (!decide (a = b)))
    | _ => False)
  | _ => False
theorem od_is : OpD X (compareOp .Is) oIs := by
  refine OpD.or od_isN od_isB fun x y Q h => ?_
  cases y with
  | non => exact .inl h
  | bl b => cases x <;> first | exact h.elim | exact .inr h
  | _ => exact h.elim
theorem od_isnot : OpD X (compareOp .IsNot) oIsNot := by
  refine OpD.or od_notN od_notB fun x y Q h => ?_
  cases y with
  | non => exact .inl h
  | bl b => cases x <;> first | exact h.elim | exact .inr h
  | _ => exact h.elim

/-! ### keys, dicts that are read -/
def keyD : D → Option Key
  | .int i => some (.inl i)
  | .str x => some (.inr x)
  | _ => none
def keysD : List D → Option (List Key)
  | [] => some []
  | d :: r => match keyD d, keysD r with
    | some k, some ks => some (k :: ks)
    | _, _ => none
def getK {κ : Type} [DecidableEq κ] (ds : List (κ × D)) (k : κ) : Option D := (ds.find? fun p => decide (p.1 = k)).map (·.2)
theorem RO.key {T : Tx} {F H : Hp} {v : V} {d : D} {A : List Addr} {k : Key} (r : RO T F H v d A) (h : keyD d = some k) : v = kV k := by
  cases r <;> simp [keyD] at h
  · subst h; rfl
  · subst h; rfl
theorem ROs.keys {T : Tx} {F H : Hp} {vs : List V} {ds : List D} {A : List Addr} (r : ROs T F H vs ds A) : ∀ {ks : List Key}, keysD ds = some ks → vs = ks.map kV := by
  induction ds generalizing vs A with
  | nil => intro ks h; cases r; simp [keysD] at h; subst h; rfl
  | cons d ds ih =>
    intro ks h
    cases r with
    | cons r1 r2 =>
      simp only [keysD] at h
      split at h
      · rename_i k ks' e1 e2
        cases h
        rw [r1.key e1, ih r2 e2]; rfl
      · cases h
/-- what a look-up gives on both sides -/
def DRel (T : Tx) (F H : Hp) (A : List Addr) : Option D → Option V → Prop
  | none, none => True
  | some d, some v => ∃ C, RO T F H v d C ∧ ∀ b ∈ C, b ∈ A
  | _, _ => False
theorem DRel.more {T : Tx} {F H : Hp} {A A' : List Addr} (h : ∀ b ∈ A, b ∈ A') : ∀ {o : Option D} {r : Option V}, DRel T F H A o r → DRel T F H A' o r
  | none, none, _ => trivial
  | some _, some _, ⟨C, r, m⟩ => ⟨C, r, fun b hb => h b (m b hb)⟩
theorem DRel.isSome {T : Tx} {F H : Hp} {A : List Addr} : ∀ {o : Option D} {r : Option V}, DRel T F H A o r → r.isSome = o.isSome
  | none, none, _ => rfl
  | some _, some _, _ => rfl
theorem look_of {κ : Type} [DecidableEq κ] {T : Tx} {F H : Hp} (k : κ) : ∀ {kvs : List (κ × V)} {ds : List (κ × D)} {A : List Addr}, kvs.map (·.1) = ds.map (·.1) → ROs T F H (kvs.map (·.2)) (ds.map (·.2)) A → DRel T F H A (getK ds k) (valV kvs k)
  | [], [], _, _, _ => trivial
  | [], _ :: _, _, e, _ => nomatch e
  | _ :: _, [], _, e, _ => nomatch e
  | (k1, v1) :: kvs, (k2, d2) :: ds, _, e, .cons (A := A1) (B := B1) r1 r2 => by
    simp only [List.map_cons, List.cons.injEq] at e
    obtain ⟨e1, e2⟩ := e
    have e1' : k1 = k2 := e1
    subst e1'
    by_cases hk : k1 = k
    · have h1 : getK ((k1, d2) :: ds) k = some d2 := by simp [getK, hk]
      have h2 : valV ((k1, v1) :: kvs) k = some v1 := by simp [valV, hk]
      rw [h1, h2]
      exact ⟨A1, r1, fun b m => List.mem_append_left _ m⟩
    · have h1 : getK ((k1, d2) :: ds) k = getK ds k := by simp [getK, hk]
      have h2 : valV ((k1, v1) :: kvs) k = valV kvs k := by simp [valV, hk]
      rw [h1, h2]
      exact (look_of k e2 r2).more fun b m => List.mem_append_right _ m
/-- the dict at v read at the key y -/
def dGet (x y : D) : Option (Option D) := match x with
  | .dct _ ds => (match keyD y with
    | some k => some (getK ds k)
    | none => none)
  | .dtt _ ds => (match y with
    | .tup es => (match keysD es with
      | some k => some (getK ds k)
      | none => none)
    | _ => none)
  | _ => none
theorem dget_of {F H : Hp} (hS : Same F H) {T : Tx} {x y : V} {dx dy : D} {A B : List Addr} (rx : RO T F H x dx A) (ry : RO T F H y dy B) {o : Option D} (h : dGet dx dy = some o) :
    ∃ a r, x = .ref a ∧ DGet H a y r ∧ DRel T F H A o r := by
  have dk : ∀ {a : Addr} {kvs : List (Key × V)} {ds : List (Key × D)} {A1 : List Addr}, H a = some (.dK kvs) → kvs.map (·.1) = ds.map (·.1) → ROs T F H (kvs.map (·.2)) (ds.map (·.2)) A1 → ∀ {k : Key}, keyD dy = some k → (∀ b ∈ A1, b ∈ A) →
      ∃ r, DGet H a y r ∧ DRel T F H A (getK ds k) r := by
    intro a kvs ds A1 ha e r k hk hA
    exact ⟨valV kvs k, .inl ⟨kvs, k, .inl ha, ry.key hk, rfl⟩, (look_of k e r).more hA⟩
  have dt : ∀ {a : Addr} {kvs : List (List Key × V)} {ds : List (List Key × D)} {A1 : List Addr}, H a = some (.dT kvs) → kvs.map (·.1) = ds.map (·.1) → ROs T F H (kvs.map (·.2)) (ds.map (·.2)) A1 → ∀ {es : List D} {k : List Key}, dy = .tup es → keysD es = some k → (∀ b ∈ A1, b ∈ A) →
      ∃ r, DGet H a y r ∧ DRel T F H A (getK ds k) r := by
    intro a kvs ds A1 ha e r es k he hk hA
    subst he
    cases ry with
    | @tup b vs _ _ hb rs =>
      have ek := rs.keys hk
      subst ek
      exact ⟨valV kvs k, .inr ⟨kvs, k, b, .inl ha, rfl, hS _ _ hb, rfl⟩, (look_of k e r).more hA⟩
  unfold dGet at h
  cases rx with
  | @dctO a kvs ds A1 ha e r =>
    simp only at h
    split at h
    · rename_i k hk
      cases h
      obtain ⟨r', z⟩ := dk ha e r hk (fun b m => List.mem_cons_of_mem _ m)
      exact ⟨a, r', rfl, z⟩
    · cases h
  | @dctF a kvs ds m hm ha e r =>
    simp only at h
    split at h
    · rename_i k hk
      cases h
      obtain ⟨r', z⟩ := dk (hS _ _ ha) e r hk (fun b m => m)
      exact ⟨a, r', rfl, z⟩
    · cases h
  | @dttO a kvs ds A1 ha e r =>
    simp only at h
    split at h
    · rename_i es
      split at h
      · rename_i k hk
        cases h
        obtain ⟨r', z⟩ := dt ha e r rfl hk (fun b m => List.mem_cons_of_mem _ m)
        exact ⟨a, r', rfl, z⟩
      · cases h
    · cases h
  | @dttF a kvs ds m hm ha e r =>
    simp only at h
    split at h
    · rename_i es
      split at h
      · rename_i k hk
        cases h
        obtain ⟨r', z⟩ := dt (hS _ _ ha) e r rfl hk (fun b m => m)
        exact ⟨a, r', rfl, z⟩
      · cases h
    · cases h
  | _ => cases h

/-! ### in -/
def inL (x : D) (ds : List D) : Bool := ds.any fun z => eqD z x
theorem any_toPys (x : D) (ds : List D) : (toPys ds).any (fun z => PyData.eqv z (toPy x)) = inL x ds := by
  rw [toPys_eq, List.any_map]; rfl
/-- x in y, of a list, a tuple, a dict -/
def inD (x y : D) : Option Bool := match y with
  | .lst _ ds => if Pl 9 x = true ∧ ds.all (Pl 9) = true then some (inL x ds) else none
  | .tup ds => if Pl 9 x = true ∧ ds.all (Pl 9) = true then some (inL x ds) else none
  | .dct m ds => (dGet (.dct m ds) x).map (·.isSome)
  | .dtt m ds => (dGet (.dtt m ds) x).map (·.isSome)
  | _ => none
def onO {α : Type} (o : Option α) (k : α → Prop) : Prop := match o with
  | some b => k b
  | none => False
theorem onO_some {α : Type} {o : Option α} {k : α → Prop} (h : onO o k) : ∃ b, o = some b ∧ k b := by
  cases o with
  | none => exact h.elim
  | some b => exact ⟨b, rfl, h⟩
def oIn : OpF := fun x y Q => onO (inD x y) fun b => Q (.bl b)
def oNotIn : OpF := fun x y Q => onO (inD x y) fun b => Q (.bl (!b))
theorem od_in (hu : X.A.units + 100 < cLine) : OpD X (compareOp .In) oIn := by
  refine OpD.flat (fun x y => (inD x y).map fun b => .bl b) (fun pins s σ F H x y dx dy z A B v u Q I hS r1 r2 rx ry hg q => ?_) fun x y Q h => ?_
  · cases hb : inD dx dy with
    | none => rw [hb] at hg; cases hg
    | some b =>
      rw [hb] at hg
      cases hg
      have fin : EP X pins σ Q (.bool b) s := ⟨.bl b, H, I, rfl, q _ (.bl b)⟩
      cases dy with
      | lst m ds =>
        simp only [inD] at hb
        split at hb
        · rename_i hp
          cases hb
          obtain ⟨as, ra⟩ := r1.rd I hS hp.1 rx
          obtain ⟨bs, rb⟩ := r2.rd (n := 10) I hS (d := .lst m ds) hp.2 ry
          have d1 := Pl.plain hp.1
          have d2 := Pl.plains hp.2
          exact PySem.SeqAt.in_list_data rb ra d2.1 d1.1 (by omega) (by rw [any_toPys]; exact fin)
        · cases hb
      | tup ds =>
        simp only [inD] at hb
        split at hb
        · rename_i hp
          cases hb
          obtain ⟨as, ra⟩ := r1.rd I hS hp.1 rx
          obtain ⟨bs, rb⟩ := r2.rd (n := 10) I hS (d := .tup ds) hp.2 ry
          have d1 := Pl.plain hp.1
          have d2 := Pl.plains hp.2
          exact PySem.SeqAt.in_tuple_data rb ra d2.1 d1.1 (by omega) (by rw [any_toPys]; exact fin)
        · cases hb
      | dct m ds =>
        simp only [inD] at hb
        cases ho : dGet (.dct m ds) dx with
        | none => rw [ho] at hb; cases hb
        | some o =>
          rw [ho] at hb
          cases hb
          obtain ⟨a, r, rfl, g, z⟩ := dget_of hS r2 r1 ho
          have e := z.isSome
          cases ry
          exact d_in (by omega) I g rx fun s' I' => ⟨.bl _, H, I', by rw [e]; rfl, q _ (.bl _)⟩
      | dtt m ds =>
        simp only [inD] at hb
        cases ho : dGet (.dtt m ds) dx with
        | none => rw [ho] at hb; cases hb
        | some o =>
          rw [ho] at hb
          cases hb
          obtain ⟨a, r, rfl, g, z⟩ := dget_of hS r2 r1 ho
          have e := z.isSome
          cases ry
          exact d_in (by omega) I g rx fun s' I' => ⟨.bl _, H, I', by rw [e]; rfl, q _ (.bl _)⟩
      | _ => cases hb
  · obtain ⟨b, e, k⟩ := onO_some h
    exact ⟨_, by rw [e]; rfl, k⟩
theorem od_notin (hu : X.A.units + 100 < cLine) : OpD X (compareOp .NotIn) oNotIn := by
  refine OpD.flat (fun x y => (inD x y).map fun b => .bl (!b)) (fun pins s σ F H x y dx dy z A B v u Q I hS r1 r2 rx ry hg q => ?_) fun x y Q h => ?_
  · cases hb : inD dx dy with
    | none => rw [hb] at hg; cases hg
    | some b =>
      rw [hb] at hg
      cases hg
      have fin : EP X pins σ Q (.bool (!b)) s := ⟨.bl (!b), H, I, rfl, q _ (.bl _)⟩
      cases dy with
      | lst m ds =>
        simp only [inD] at hb
        split at hb
        · rename_i hp
          cases hb
          obtain ⟨as, ra⟩ := r1.rd I hS hp.1 rx
          obtain ⟨bs, rb⟩ := r2.rd (n := 10) I hS (d := .lst m ds) hp.2 ry
          have d1 := Pl.plain hp.1
          have d2 := Pl.plains hp.2
          exact PySem.SeqAt.notIn_list_data rb ra d2.1 d1.1 (by omega) (by rw [any_toPys]; exact fin)
        · cases hb
      | tup ds =>
        simp only [inD] at hb
        split at hb
        · rename_i hp
          cases hb
          obtain ⟨as, ra⟩ := r1.rd I hS hp.1 rx
          obtain ⟨bs, rb⟩ := r2.rd (n := 10) I hS (d := .tup ds) hp.2 ry
          have d1 := Pl.plain hp.1
          have d2 := Pl.plains hp.2
          exact PySem.SeqAt.notIn_tuple_data rb ra d2.1 d1.1 (by omega) (by rw [any_toPys]; exact fin)
        · cases hb
      | dct m ds =>
        simp only [inD] at hb
        cases ho : dGet (.dct m ds) dx with
        | none => rw [ho] at hb; cases hb
        | some o =>
          rw [ho] at hb
          cases hb
          obtain ⟨a, r, rfl, g, z⟩ := dget_of hS r2 r1 ho
          have e := z.isSome
          cases ry
          exact d_notIn (by omega) I g rx fun s' I' => ⟨.bl _, H, I', by rw [e]; rfl, q _ (.bl _)⟩
      | dtt m ds =>
        simp only [inD] at hb
        cases ho : dGet (.dtt m ds) dx with
        | none => rw [ho] at hb; cases hb
        | some o =>
          rw [ho] at hb
          cases hb
          obtain ⟨a, r, rfl, g, z⟩ := dget_of hS r2 r1 ho
          have e := z.isSome
          cases ry
          exact d_notIn (by omega) I g rx fun s' I' => ⟨.bl _, H, I', by rw [e]; rfl, q _ (.bl _)⟩
      | _ => cases hb
  · obtain ⟨b, e, k⟩ := onO_some h
    exact ⟨_, by rw [e]; rfl, k⟩
end
end Mf
set_option Elab.async false
set_option linter.all false
/-! Subscripts, slices, fields, built-in functions. -/
namespace Mf
open PySem PySem.Spec PyProof.Rows L2

section
variable {X : Cx} {W : WX} {a b e : Expr} {fa fb fe : DF} {ga gb ge : PF} {pos : Pos}

/-! ### unary minus -/
def uNeg : D → (D → Prop) → Prop := fun x Q => match x with
  | .int i => Q (.int (-i))
  | _ => False
theorem ud_neg : UnD X (unaryOp .USub) uNeg := by
  refine ⟨_, un_neg, fun F H x dx A Q Q' hS rx h hn => ?_⟩
  cases dx with
  | int i =>
    obtain ⟨rfl, rfl⟩ := rx.int_inv
    exact ⟨i, rfl, hn _ _ [] H F (Gr.refl hS) (.int _) .nil (fun _ m => nomatch m) h⟩
  | _ => exact h.elim

/-! ### a[b] -/
def ixD (x y : D) : Option D := match x, y with
  | .lst _ ds, .int i => atI ds i
  | .tup ds, .int i => atI ds i
  | .scr ns, .int i => (atI ns i).map D.int
  | .str z, .int i => (if z.length ≤ sizeLine then (atI z.cps.toList i).map fun c => D.str ⟨#[c]⟩ else none)
  | .dct m ds, k => (dGet (.dct m ds) k).join
  | .dtt m ds, k => (dGet (.dtt m ds) k).join
  | _, _ => none
theorem ix_dict (hu : X.A.units + 1 < cLine) : IxR X (fun x y H Q => ∃ a v, x = .ref a ∧ DGet H a y (some v) ∧ Q v H) := by
  intro value slice pins s σ H x y v u Q I rx ry ⟨a, w, e, g, q⟩ hs
  subst e
  cases rx
  exact tail_any (dict_typeIs I g) slot_dict_getitem.lookup (d_getItem hu I g ry fun w' s' I' r' => ⟨w, H, I', r', q⟩) hs
theorem ROs.at_ {T : Tx} {F H : Hp} : ∀ {vs : List V} {ds : List D} {A : List Addr}, ROs T F H vs ds A → ∀ {i : Nat} {d : D}, ds[i]? = some d → ∃ v C, vs[i]? = some v ∧ RO T F H v d C ∧ ∀ b ∈ C, b ∈ A := by
  have key : ∀ (n : Nat) (vs : List V) (ds : List D) (A : List Addr), ROs T F H vs ds A → ∀ d, ds[n]? = some d → ∃ v C, vs[n]? = some v ∧ RO T F H v d C ∧ ∀ b ∈ C, b ∈ A := by
    intro n
    induction n with
    | zero =>
      intro vs ds A h d hd
      cases h with
      | nil => simp at hd
      | cons h r =>
        simp at hd
        subst hd
        exact ⟨_, _, rfl, h, fun b m => List.mem_append_left _ m⟩
    | succ n ih =>
      intro vs ds A h d hd
      cases h with
      | nil => simp at hd
      | cons h r =>
        obtain ⟨v, C, e, r', m⟩ := ih _ _ _ r d (by simpa using hd)
        exact ⟨v, C, by simpa using e, r', fun b hb => List.mem_append_right _ (m b hb)⟩
  intro vs ds A h i d hd
  exact key i vs ds A h d hd
theorem ROs.atI {T : Tx} {F H : Hp} {vs : List V} {ds : List D} {A : List Addr} (r : ROs T F H vs ds A) {i : Int} {d : D} (h : L2.atI ds i = some d) : ∃ v C, L2.atI vs i = some v ∧ RO T F H v d C ∧ ∀ b ∈ C, b ∈ A := by
  unfold L2.atI at h ⊢
  rw [r.len]
  cases q : ixN ds.length i with
  | none => rw [q] at h; cases h
  | some j =>
    rw [q] at h
    exact r.at_ h
/-- the rule of a[b]; what it tells is a part of a -/
theorem ixd (hu : X.A.units + 100 < cLine) : ∃ r' : R2, IxR X r' ∧ ∀ F H x y dx dy A B (Q : D → Prop) (Q' : VK), Same F H → RO (tx X) F H x dx A → RO (tx X) F H y dy B → onO (ixD dx dy) Q →
    (∀ z d C, RO (tx X) F H z d C → (∀ b ∈ C, b ∈ A) → Q d → Q' z H) → r' x y H Q' := by
  refine ⟨_, IxR.or (ix_dict (by omega)) ix_seq, fun F H x y dx dy A B Q Q' hS rx ry h q => ?_⟩
  obtain ⟨d, e, hq⟩ := onO_some h
  clear h
  have dict : ∀ {o : Option (Option D)}, dGet dx dy = o → o.join = some d → (∃ a v, x = .ref a ∧ DGet H a y (some v) ∧ Q' v H) := by
    intro o ho hj
    cases o with
    | none => cases hj
    | some o =>
      have hj' : o = some d := hj
      subst hj'
      obtain ⟨a, r, ex, g, z⟩ := dget_of hS rx ry ho
      cases r with
      | none => exact z.elim
      | some v =>
        obtain ⟨C, r1, m⟩ := z
        exact ⟨a, v, ex, g, q v d C r1 m hq⟩
  cases dx with
  | lst m ds =>
    cases dy with
    | int i =>
      obtain ⟨rfl, rfl⟩ := ry.int_inv
      have e' : L2.atI ds i = some d := e
      cases rx with
      | @lstO a vs _ A1 ha r =>
        obtain ⟨v, C, ev, rv, m⟩ := r.atI e'
        exact .inr (.inl ⟨a, vs, i, v, rfl, rfl, SqL_of ha, ev, q v d C rv (fun b hb => List.mem_cons_of_mem _ (m b hb)) hq⟩)
      | @lstF a vs _ _ hm ha r =>
        obtain ⟨v, C, ev, rv, m⟩ := r.atI e'
        exact .inr (.inl ⟨a, vs, i, v, rfl, rfl, SqL_of (hS _ _ ha), ev, q v d C rv m hq⟩)
    | _ => cases e
  | tup ds =>
    cases dy with
    | int i =>
      obtain ⟨rfl, rfl⟩ := ry.int_inv
      have e' : L2.atI ds i = some d := e
      cases rx with
      | @tup a vs _ _ ha r =>
        obtain ⟨v, C, ev, rv, m⟩ := r.atI e'
        exact .inr (.inr (.inl ⟨a, vs, i, v, rfl, rfl, SqT_of (hS _ _ ha), ev, q v d C rv m hq⟩))
    | _ => cases e
  | scr ns =>
    cases dy with
    | int i =>
      obtain ⟨rfl, rfl⟩ := ry.int_inv
      cases rx with
      | @scr a _ ha =>
        have e' : (L2.atI ns i).map D.int = some d := e
        cases en : L2.atI ns i with
        | none => rw [en] at e'; cases e'
        | some n =>
          rw [en] at e'
          cases e'
          have ev : L2.atI (ns.map V.int) i = some (.int n) := by
            unfold L2.atI at en ⊢
            rw [List.length_map]
            cases q2 : ixN ns.length i with
            | none => rw [q2] at en; cases en
            | some j =>
              rw [q2] at en
              have en' : ns[j]? = some n := en
              show (ns.map V.int)[j]? = _
              rw [List.getElem?_map, en']; rfl
          exact .inr (.inl ⟨a, ns.map V.int, i, .int n, rfl, rfl, SqL.same hS ha, ev, q _ _ [] (.int n) (fun _ m => nomatch m) hq⟩)
    | _ => cases e
  | str z =>
    cases dy with
    | int i =>
      obtain ⟨rfl, rfl⟩ := ry.int_inv
      obtain ⟨rfl, rfl⟩ := rx.str_inv
      simp only [ixD] at e
      split at e
      · rename_i hz
        cases ec : L2.atI z.cps.toList i with
        | none => rw [ec] at e; cases e
        | some c =>
          rw [ec] at e
          cases e
          exact .inr (.inr (.inr ⟨z, i, c, rfl, rfl, hz, ec, q _ _ [] (.str _) (fun _ m => nomatch m) hq⟩))
      · cases e
    | _ => cases e
  | dct m ds => exact .inl (dict rfl e)
  | dtt m ds => exact .inl (dict rfl e)
  | _ => cases e
def pIx (ga gb : PF) : PF := fun env Q => ga env fun x => gb env fun y => onO (ixD x y) Q
/-- the base frozen -/
def dIx (fa fb : DF) : DF := fun env Q E => fa env (fun x env1 => fb env1 (fun y env2 => onO (ixD (fz x) y) fun z => Q z env2) E) E
theorem dp_ix (hu : X.A.units + 100 < cLine) (ha : DP X a ga) (hb : DP X b gb) (hs : PlainIx b := by intro _ _; rfl) : DP X (.Subscript a b pos) (pIx ga gb) := by
  obtain ⟨r', o, kr⟩ := ixd (X := X) hu
  obtain ⟨ta, pa, ka⟩ := ha.ex
  obtain ⟨tb, pb, kb⟩ := hb.ex
  refine ⟨_, pe_ix o pa pb hs, fun σ H env F R Q Q' s f q => ?_⟩
  refine ka σ H env F R _ _ s f fun u du A H1 F1 g1 ra f1 => ?_
  refine kb σ H1 env F1 R _ _ (s.gr g1) f1 fun w dw B H2 F2 g2 rb f2 => ?_
  exact kr F2 H2 u w du dw A B Q Q' g2.s (ra.mono g2.f g2.h) rb f2 fun z d C rz _ qz => q z d C H2 F2 (g1.trans g2) rz qz
theorem de_ix (hu : X.A.units + 100 < cLine) (ha : DE X W a fa) (hb : DE X W b fb) (hs : PlainIx b := by intro _ _; rfl) : DE X W (.Subscript a b pos) (dIx fa fb) := by
  obtain ⟨r', o, kr⟩ := ixd (X := X) hu
  obtain ⟨ta, pa, ka⟩ := ha.ex
  obtain ⟨tb, pb, kb⟩ := hb.ex
  refine ⟨_, pe_ix o pa pb hs, fun σ H env F R Q E Q' s f q x => ?_⟩
  refine ka σ H env F R _ E _ s f (fun u du e1 H1 F1 s1 st1 f1 => ?_) x
  refine kb σ H1 e1 F1 _ _ E _ st1 f1 (fun w dw e2 H2 F2 s2 st2 f2 => ?_) (x.mono s1).cons
  obtain ⟨B, rb⟩ := st2.abs.head
  obtain ⟨F3, s3, st3⟩ := st2.tail.freeze
  have ra := st3.abs.head0 (nown_fz du)
  refine kr F3 H2 u w (fz du) dw [] B _ Q' st3.same ra (rb.mono s3 (Same.refl _)) f2 fun z d C rz m qz => ?_
  have e0 : C = [] := List.eq_nil_iff_forall_not_mem.mpr fun b hb => nomatch m b hb
  subst e0
  exact q z d e2 H2 F3 ((s1.trans s2).trans s3) (st3.tail.push rz) qz

/-! ### a[lo:hi] -/
/-- the items between -/
def cutD (xs : List D) (lo hi : Option Int) : List D := (xs.drop (HT.sIx xs.length 0 lo)).take (HT.sIx xs.length xs.length hi - HT.sIx xs.length 0 lo)
theorem ROs.take {T : Tx} {F H : Hp} : ∀ (n : Nat) {vs : List V} {ds : List D}, ROs T F H vs ds [] → ROs T F H (vs.take n) (ds.take n) [] := by
  intro n
  induction n with
  | zero => intro vs ds h; simp; exact .nil
  | succ n ih =>
    have key : ∀ (vs : List V) (ds : List D) (A : List Addr), ROs T F H vs ds A → A = [] → ROs T F H (vs.take (n + 1)) (ds.take (n + 1)) [] := by
      intro vs ds A h e
      cases h with
      | nil => exact .nil
      | cons h r =>
        obtain ⟨rfl, rfl⟩ := app_nil e.symm
        exact .cons (A := []) (B := []) h (ih r)
    intro vs ds h
    exact key vs ds [] h rfl
theorem ROs.drop {T : Tx} {F H : Hp} : ∀ (n : Nat) {vs : List V} {ds : List D}, ROs T F H vs ds [] → ROs T F H (vs.drop n) (ds.drop n) [] := by
  intro n
  induction n with
  | zero => intro vs ds h; simpa using h
  | succ n ih =>
    have key : ∀ (vs : List V) (ds : List D) (A : List Addr), ROs T F H vs ds A → A = [] → ROs T F H (vs.drop (n + 1)) (ds.drop (n + 1)) [] := by
      intro vs ds A h e
      cases h with
      | nil => exact .nil
      | cons h r =>
        obtain ⟨rfl, rfl⟩ := app_nil e.symm
        exact ih r
    intro vs ds h
    exact key vs ds [] h rfl
theorem ROs.cut {T : Tx} {F H : Hp} {vs : List V} {ds : List D} (h : ROs T F H vs ds []) (lo hi : Option Int) : ROs T F H (cutV vs lo hi) (cutD ds lo hi) [] := by
  unfold cutV cutD
  rw [h.len]
  exact (h.drop _).take _
/-- the parts of a slice -/
abbrev OF := En → (Option Int → Prop) → Prop
structure DO (X : Cx) (e : Option Expr) (g : OF) : Prop where
  ex : ∃ t, PO X e t ∧ ∀ (σ : L2.St) (H : Hp) (env : En) (F : Hp) (R : Rs) (Q : Option Int → Prop) (Q' : Option Int → Hp → Prop), StA (tx X) F H σ env [] R → g env Q →
    (∀ i H' F', Gr F H F' H' → Q i → Q' i H') → t σ H Q'
def oNo : OF := fun _ Q => Q none
def oSo (ga : PF) : OF := fun env Q => ga env fun x => match x with
  | .int i => Q (some i)
  | _ => False
theorem do_none : DO X none oNo := ⟨_, po_none, fun σ H env F R Q Q' s f q => q none H F (Gr.refl s.same) f⟩
theorem do_some (h : DP X a ga) : DO X (some a) (oSo ga) := by
  obtain ⟨t, p, k⟩ := h.ex
  refine ⟨_, po_some p, fun σ H env F R Q Q' s f q => ?_⟩
  refine k σ H env F R _ _ s f fun v d A H1 F1 g1 r f1 => ?_
  cases d with
  | int i =>
    obtain ⟨rfl, rfl⟩ := r.int_inv
    exact ⟨i, rfl, q _ H1 F1 g1 f1⟩
  | _ => exact f1.elim
def slD (x : D) (lo hi : Option Int) : Option D := match x with
  | .lst _ ds => if nowns ds = true then some (.lst .own (cutD ds lo hi)) else none
  | .tup ds => if nowns ds = true then some (.tup (cutD ds lo hi)) else none
  | _ => none
theorem sl_scr : SlR X (rSlL X.K) := sl_list
/-- the rule -/
theorem sld : ∃ r' : V → Option Int → Option Int → Hp → VK → Prop, SlR X r' ∧ ∀ F H x dx A lo hi (Q : D → Prop) (Q' : VK), Same F H → RO (tx X) F H x dx A → onO (slD dx lo hi) Q → New X F H Q Q' → r' x lo hi H Q' := by
  refine ⟨_, SlR.or sl_list sl_tupA, fun F H x dx A lo hi Q Q' hS rx h hn => ?_⟩
  obtain ⟨d, e, h⟩ := onO_some h
  cases dx with
  | lst m ds =>
    simp only [slD] at e
    split at e
    · rename_i hz
      cases e
      obtain ⟨a, vs, rfl, ha, r, l⟩ := rx.lst_items hS hz
      exact .inl ⟨a, vs, rfl, SqL_of ha, fun p hp => new_list hS (r.cut lo hi) hn h hp⟩
    · cases e
  | tup ds =>
    simp only [slD] at e
    split at e
    · rename_i hz
      cases e
      obtain ⟨a, vs, rfl, ha, hf, r, l⟩ := rx.tup_items hS hz
      refine .inr ⟨a, vs, rfl, SqT_of ha, fun hw => ?_, fun _ p hp => new_tup hS (r.cut lo hi) hn h hp⟩
      have ec : cutD ds lo hi = ds := by
        unfold cutD
        rw [← l, hw.1, hw.2, List.drop_zero, Nat.sub_zero, l]
        exact List.take_length
      rw [ec] at h
      exact hn _ _ [] H F (Gr.refl hS) (.tup hf r) .nil (fun _ m => nomatch m) h
    · cases e
  | _ => cases e
def pSl (ga : PF) (gl gh : OF) : PF := fun env Q => ga env fun x => gl env fun lo => gh env fun hi => onO (slD x lo hi) Q
def dSl (fa : DF) (gl gh : OF) : DF := fun env Q E => fa env (fun x env1 => gl env1 fun lo => gh env1 fun hi => onO (slD x lo hi) fun z => Q z env1) E
variable {lo hi : Option Expr} {gl gh : OF} {p2 : Pos}
theorem dp_slice (ha : DP X a ga) (hl : DO X lo gl) (hh : DO X hi gh) : DP X (.Subscript a (.Slice lo hi none p2) pos) (pSl ga gl gh) := by
  obtain ⟨r', o, kr⟩ := sld (X := X)
  obtain ⟨ta, pa, ka⟩ := ha.ex
  obtain ⟨tl, pl, kl⟩ := hl.ex
  obtain ⟨th, ph, kh⟩ := hh.ex
  refine ⟨_, pe_slice o pa pl ph, fun σ H env F R Q Q' s f q => ?_⟩
  refine ka σ H env F R _ _ s f fun u du A H1 F1 g1 ra f1 => ?_
  refine kl σ H1 env F1 R _ _ (s.gr g1) f1 fun i H2 F2 g2 f2 => ?_
  refine kh σ H2 env F2 R _ _ ((s.gr g1).gr g2) f2 fun j H3 F3 g3 f3 => ?_
  exact kr F3 H3 u du A i j Q Q' g3.s (ra.mono (g2.trans g3).f (g2.trans g3).h) f3 fun z d A' H' F' g' rz _ _ qz => q z d A' H' F' (((g1.trans g2).trans g3).trans g') rz qz
theorem de_slice (ha : DE X W a fa) (hl : DO X lo gl) (hh : DO X hi gh) : DE X W (.Subscript a (.Slice lo hi none p2) pos) (dSl fa gl gh) := by
  obtain ⟨r', o, kr⟩ := sld (X := X)
  obtain ⟨ta, pa, ka⟩ := ha.ex
  obtain ⟨tl, pl, kl⟩ := hl.ex
  obtain ⟨th, ph, kh⟩ := hh.ex
  refine ⟨_, pe_slice o pa pl ph, fun σ H env F R Q E Q' s f q x => ?_⟩
  refine ka σ H env F R _ E _ s f (fun u du e1 H1 F1 s1 st1 f1 => ?_) x
  refine kl σ H1 e1 F1 _ _ _ st1 f1 fun i H2 F2 g2 f2 => ?_
  refine kh σ H2 e1 F2 _ _ _ (st1.gr g2) f2 fun j H3 F3 g3 f3 => ?_
  have st3 := (st1.gr g2).gr g3
  obtain ⟨A, ra⟩ := st3.abs.head
  exact kr F3 H3 u du A i j _ Q' g3.s ra f3 fun z d A' H' F' g' rz nz fz qz => q z d e1 H' F' (((s1.trans g2.f).trans g3.f).trans g'.f) (st3.tail.add g' rz nz fz) qz
/-! ### calls of built-in things -/
abbrev CF := List D → (D → Prop) → Prop
structure CallD (X : Cx) (f : Value) (g : CF) : Prop where
  ex : ∃ r, CallR X f r ∧ ∀ F H vs ds A Q Q', Same F H → ROs (tx X) F H vs ds A → g ds Q → New X F H Q Q' → r vs H Q'
theorem CallD.or {f : Value} {g1 g2 g : CF} (h1 : CallD X f g1) (h2 : CallD X f g2) (k : ∀ ds Q, g ds Q → g1 ds Q ∨ g2 ds Q) : CallD X f g := by
  obtain ⟨r1, o1, k1⟩ := h1.ex
  obtain ⟨r2, o2, k2⟩ := h2.ex
  refine ⟨fun xs H Q => r1 xs H Q ∨ r2 xs H Q, fun pins s σ H xs us Q I r h => ?_, fun F H vs ds A Q Q' hS r h hn => ?_⟩
  · rcases h with h | h
    · exact o1 pins s σ H xs us Q I r h
    · exact o2 pins s σ H xs us Q I r h
  · rcases k ds Q h with h | h
    · exact .inl (k1 F H vs ds A Q Q' hS r h hn)
    · exact .inr (k2 F H vs ds A Q Q' hS r h hn)
theorem CallD.mono {f : Value} {g1 g : CF} (h1 : CallD X f g1) (k : ∀ ds Q, g ds Q → g1 ds Q) : CallD X f g := CallD.or h1 h1 fun ds Q h => .inl (k ds Q h)
/-- one argument -/
def c1 (r : D → (D → Prop) → Prop) : CF := fun ds Q => match ds with
  | [x] => r x Q
  | _ => False
def c2 (r : D → D → (D → Prop) → Prop) : CF := fun ds Q => match ds with
  | [x, y] => r x y Q
  | _ => False
theorem ROs.one {T : Tx} {F H : Hp} {vs : List V} {d : D} {A : List Addr} (h : ROs T F H vs [d] A) : ∃ v, vs = [v] ∧ RO T F H v d A := by
  cases h with
  | cons h r =>
    cases r with
    | nil => exact ⟨_, rfl, by rw [List.append_nil]; exact h⟩
theorem ROs.two {T : Tx} {F H : Hp} {vs : List V} {d e : D} {A : List Addr} (h : ROs T F H vs [d, e] A) : ∃ v w B C, vs = [v, w] ∧ RO T F H v d B ∧ RO T F H w e C := by
  cases h with
  | cons h r =>
    obtain ⟨w, rfl, r2⟩ := r.one
    exact ⟨_, w, _, _, rfl, h, r2⟩
theorem CallD.mk1 {f : Value} {g : D → (D → Prop) → Prop} {r : List V → Hp → VK → Prop} (h : CallR X f r) (k : ∀ F H v d A Q Q', Same F H → RO (tx X) F H v d A → g d Q → New X F H Q Q' → r [v] H Q') : CallD X f (c1 g) := by
  refine ⟨r, h, fun F H vs ds A Q Q' hS rs hg hn => ?_⟩
  match ds, rs, hg with
  | [d], rs, hg =>
    obtain ⟨v, rfl, rv⟩ := rs.one
    exact k F H v d A Q Q' hS rv hg hn
theorem CallD.mk2 {f : Value} {g : D → D → (D → Prop) → Prop} {r : List V → Hp → VK → Prop} (h : CallR X f r) (k : ∀ F H v w d e A B Q Q', Same F H → RO (tx X) F H v d A → RO (tx X) F H w e B → g d e Q → New X F H Q Q' → r [v, w] H Q') : CallD X f (c2 g) := by
  refine ⟨r, h, fun F H vs ds A Q Q' hS rs hg hn => ?_⟩
  match ds, rs, hg with
  | [d, e], rs, hg =>
    obtain ⟨v, w, B, C, rfl, rv, rw'⟩ := rs.two
    exact k F H v w d e B C Q Q' hS rv rw' hg hn
/-- an answer that owns nothing, the heap as it was, walked in the model directly -/
theorem CallD.flat {f : Value} {g : CF} (go : List D → Option D)
    (run : ∀ (pins : List (Addr × Obj)) (s : Shared) (σ : L2.St) (F H : Hp) (vs : List V) (us : List Value) (ds : List D) (z : D) (A : List Addr) (Q : VK), Inv X pins σ H s → Same F H → ROs (tx X) F H vs ds A → Vals vs us → go ds = some z →
      (∀ zv, RO (tx X) F H zv z [] → Q zv H) → wpAny (model X.prog X.w) X.A (call f us) (EP X pins σ Q) X.xe s)
    (k : ∀ ds Q, g ds Q → ∃ z, go ds = some z ∧ Q z) : CallD X f g := by
  refine ⟨fun vs H Q => ∃ F ds z A, Same F H ∧ ROs (tx X) F H vs ds A ∧ go ds = some z ∧ ∀ zv, RO (tx X) F H zv z [] → Q zv H, ?_, ?_⟩
  · intro pins s σ H vs us Q I rv ⟨F, ds, z, A, hS, r, hg, q⟩
    exact run pins s σ F H vs us ds z A Q I hS r rv hg q
  · intro F H vs ds A Q Q' hS r h hn
    obtain ⟨z, hg, q⟩ := k ds Q h
    exact ⟨F, ds, z, A, hS, r, hg, fun zv rz => hn zv z [] H F (Gr.refl hS) rz .nil (fun _ m => nomatch m) q⟩
def dCall (g : CF) (fr : AF) : DF := fun env Q E => fr env (fun ds env1 => g ds fun z => Q z env1) E
def pCall (g : CF) (gr : PAF) : PF := fun env Q => gr env fun ds => g ds Q
section
variable {x : Str} {p : Pos} {es : List Expr} {fr : AF} {gr : PAF} {g : CF} {id T : String}
theorem callK {r : List V → Hp → VK → Prop} {t : TA} (kr : ∀ F H vs ds A Q Q', Same F H → ROs (tx X) F H vs ds A → g ds Q → New X F H Q Q' → r vs H Q')
    (k : ∀ (σ : L2.St) (H : Hp) (env : En) (F : Hp) (R : Rs) (Q : List D → En → Prop) (E : EK) (Q' : List V → Hp → Prop), StA (tx X) F H σ env [] R → fr env Q E →
      (∀ vs ds env' H' F', Same F F' → vs.length = ds.length → StA (tx X) F' H' σ env' [] (vs.zip ds ++ R) → Q ds env' → Q' vs H') → ExK X W F R E → t σ H Q')
    (σ : L2.St) (H : Hp) (env : En) (F : Hp) (R : Rs) (Q : D → En → Prop) (E : EK) (Q' : VK) (s : StA (tx X) F H σ env [] R) (f : dCall g fr env Q E)
    (q : ∀ v d env' H' F', Same F F' → StA (tx X) F' H' σ env' [] ((v, d) :: R) → Q d env' → Q' v H') (xk : ExK X W F R E) : tCB r t σ H Q' := by
  refine k σ H env F R _ E _ s f (fun vs ds e1 H1 F1 s1 l1 st1 f1 => ?_) xk
  obtain ⟨A, ra, nd, fd⟩ := st1.abs.own
  obtain ⟨A1, A2, rfl, r1, r2⟩ := RL.split ra
  refine kr F1 H1 vs ds A1 _ Q' st1.same (RL.to_zip l1 r1) f1 fun z d A' H' F' g' rz nz fz qz => ?_
  exact q z d e1 H' F' (s1.trans g'.f) (st1.drop.add g' rz nz fz) qz
theorem callP {r : List V → Hp → VK → Prop} {t : TA} (kr : ∀ F H vs ds A Q Q', Same F H → ROs (tx X) F H vs ds A → g ds Q → New X F H Q Q' → r vs H Q')
    (k : ∀ (σ : L2.St) (H : Hp) (env : En) (F : Hp) (R : Rs) (Q : List D → Prop) (Q' : List V → Hp → Prop), StA (tx X) F H σ env [] R → gr env Q →
      (∀ vs ds A H' F', Gr F H F' H' → ROs (tx X) F' H' vs ds A → Q ds → Q' vs H') → t σ H Q')
    (σ : L2.St) (H : Hp) (env : En) (F : Hp) (R : Rs) (Q : D → Prop) (Q' : VK) (s : StA (tx X) F H σ env [] R) (f : pCall g gr env Q)
    (q : ∀ v d A H' F', Gr F H F' H' → RO (tx X) F' H' v d A → Q d → Q' v H') : tCB r t σ H Q' := by
  refine k σ H env F R _ _ s f fun vs ds A H1 F1 g1 ra f1 => ?_
  exact kr F1 H1 vs ds A _ Q' g1.s ra f1 fun z d A' H' F' g' rz nz fz qz => q z d A' H' F' (g1.trans g') rz qz
theorem de_callB (hc : CallD X (.builtin id) g) (ha : DA X W (e :: es) fr) (hg : Gl X x) (hm : X.mg x = none) (hv : bootBuiltins x = some (.builtin id)) (hn : x ≠ "__name__" := by decide) (hdb : (x == ("__debug__" : Str)) = false := by decide)
    (he : starEach (e :: es) X.env = (false, eval e X.env) :: starEach es X.env := by rfl) (hpl : (backTo pos (starEach es X.env)).any (·.1) = false := by rfl) : DE X W (.Call (.Name x p) (e :: es) [] pos) (dCall g fr) := by
  obtain ⟨r, o, kr⟩ := hc.ex
  obtain ⟨t, pa, k⟩ := ha.ex
  exact ⟨_, pe_callB o hg hm hv pa hn hdb he hpl, callK kr k⟩
theorem dp_callB (hc : CallD X (.builtin id) g) (ha : DPA X (e :: es) gr) (hg : Gl X x) (hm : X.mg x = none) (hv : bootBuiltins x = some (.builtin id)) (hn : x ≠ "__name__" := by decide) (hdb : (x == ("__debug__" : Str)) = false := by decide)
    (he : starEach (e :: es) X.env = (false, eval e X.env) :: starEach es X.env := by rfl) (hpl : (backTo pos (starEach es X.env)).any (·.1) = false := by rfl) : DP X (.Call (.Name x p) (e :: es) [] pos) (pCall g gr) := by
  obtain ⟨r, o, kr⟩ := hc.ex
  obtain ⟨t, pa, k⟩ := ha.ex
  exact ⟨_, pe_callB o hg hm hv pa hn hdb he hpl, callP kr k⟩
theorem de_callTy (hc : CallD X (.type T) g) (ha : DA X W (e :: es) fr) (hg : Gl X x) (hm : X.mg x = none) (hv : bootBuiltins x = some (.type T)) (hn : x ≠ "__name__" := by decide) (hdb : (x == ("__debug__" : Str)) = false := by decide)
    (he : starEach (e :: es) X.env = (false, eval e X.env) :: starEach es X.env := by rfl) (hpl : (backTo pos (starEach es X.env)).any (·.1) = false := by rfl) : DE X W (.Call (.Name x p) (e :: es) [] pos) (dCall g fr) := by
  obtain ⟨r, o, kr⟩ := hc.ex
  obtain ⟨t, pa, k⟩ := ha.ex
  exact ⟨_, pe_callTy o hg hm hv pa hn hdb he hpl, callK kr k⟩
theorem dp_callTy (hc : CallD X (.type T) g) (ha : DPA X (e :: es) gr) (hg : Gl X x) (hm : X.mg x = none) (hv : bootBuiltins x = some (.type T)) (hn : x ≠ "__name__" := by decide) (hdb : (x == ("__debug__" : Str)) = false := by decide)
    (he : starEach (e :: es) X.env = (false, eval e X.env) :: starEach es X.env := by rfl) (hpl : (backTo pos (starEach es X.env)).any (·.1) = false := by rfl) : DP X (.Call (.Name x p) (e :: es) [] pos) (pCall g gr) := by
  obtain ⟨r, o, kr⟩ := hc.ex
  obtain ⟨t, pa, k⟩ := ha.ex
  exact ⟨_, pe_callTy o hg hm hv pa hn hdb he hpl, callP kr k⟩
end
end
end Mf
set_option Elab.async false
set_option linter.all false
/-! The built-in functions. -/
namespace Mf
open PySem PySem.Spec PyProof.Rows L2

section
variable {X : Cx} {W : WX}
abbrev N0 {A : List Addr} : ∀ a ∈ ([] : List Addr), (fun _ => True) a := fun _ m => nomatch m
/-- a result that owns nothing -/
theorem New.flat {F H : Hp} {Q : D → Prop} {Q' : VK} (hn : New X F H Q Q') (hS : Same F H) {v : V} {d : D} (r : RO (tx X) F H v d []) (q : Q d) : Q' v H :=
  hn v d [] H F (Gr.refl hS) r .nil (fun _ m => nomatch m) q

/-! len -/
def cLen1 : D → (D → Prop) → Prop := fun x Q => match x with
  | .lst _ xs => Q (.int xs.length)
  | .tup xs => Q (.int xs.length)
  | .scr xs => Q (.int xs.length)
  | .str z => z.length ≤ sizeLine ∧ Q (.int z.length)
  | .dct _ xs => Q (.int xs.length)
  | _ => False
def cLen : CF := c1 cLen1
theorem cd_len : CallD X (.builtin "len") cLen := by
  refine CallD.or (g1 := c1 fun x Q => match x with
    | .lst _ xs => Q (.int xs.length)
    | .tup xs => Q (.int xs.length)
    | .scr xs => Q (.int xs.length)
    | _ => False) (g2 := c1 fun x Q => match x with
    | .str z => z.length ≤ sizeLine ∧ Q (.int z.length)
    | .dct _ xs => Q (.int xs.length)
    | _ => False) (CallD.mk1 call_len_seq fun F H v d A Q Q' hS r h hn => ?_) (CallD.or (g1 := c1 fun x Q => match x with
    | .str z => z.length ≤ sizeLine ∧ Q (.int z.length)
    | _ => False) (g2 := c1 fun x Q => match x with
    | .dct _ xs => Q (.int xs.length)
    | _ => False) (CallD.mk1 call_len_str fun F H v d A Q Q' hS r h hn => ?_) (CallD.mk1 call_lenD fun F H v d A Q Q' hS r h hn => ?_) fun ds Q h => ?_) fun ds Q h => ?_
  · cases d with
    | lst m xs =>
      cases r with
      | lstO e r => exact ⟨_, _, rfl, .inl (SqL_of e), by rw [r.len]; exact hn.flat hS (.int _) h⟩
      | lstF _ e r => exact ⟨_, _, rfl, .inl (SqL_of (hS _ _ e)), by rw [r.len]; exact hn.flat hS (.int _) h⟩
    | tup xs =>
      cases r with
      | tup e r => exact ⟨_, _, rfl, .inr (SqT_of (hS _ _ e)), by rw [r.len]; exact hn.flat hS (.int _) h⟩
    | scr xs =>
      cases r with
      | scr e => exact ⟨_, _, rfl, .inl (SqL.same hS e), by rw [List.length_map]; exact hn.flat hS (.int _) h⟩
    | _ => exact h.elim
  · cases d with
    | str z =>
      obtain ⟨rfl, rfl⟩ := r.str_inv
      exact ⟨z, rfl, h.1, hn.flat hS (.int _) h.2⟩
    | _ => exact h.elim
  · cases d with
    | dct m xs =>
      cases r with
      | dctO e k r =>
        have := congrArg List.length k
        simp only [List.length_map] at this
        exact ⟨_, _, rfl, e, by rw [this]; exact hn.flat hS (.int _) h⟩
      | dctF _ e k r =>
        have := congrArg List.length k
        simp only [List.length_map] at this
        exact ⟨_, _, rfl, hS _ _ e, by rw [this]; exact hn.flat hS (.int _) h⟩
    | _ => exact h.elim
  · match ds, h with
    | [x], h => cases x <;> first | exact h.elim | exact .inl h | exact .inr h
  · match ds, h with
    | [x], h => cases x <;> first | exact h.elim | exact .inl h | exact .inr h
/-! abs, int, min, max of two -/
def cAbs : CF := c1 fun x Q => match x with
  | .int i => Q (.int (if i < 0 then -i else i))
  | _ => False
theorem cd_abs : CallD X (.builtin "abs") cAbs := CallD.mk1 call_abs fun F H v d A Q Q' hS r h hn => by
  cases d with
  | int i =>
    obtain ⟨rfl, rfl⟩ := r.int_inv
    exact ⟨i, rfl, hn.flat hS (.int _) h⟩
  | _ => exact h.elim
def cInt : CF := c1 fun x Q => match x with
  | .int i => Q (.int i)
  | .bl k => Q (.int (if k then 1 else 0))
  | _ => False
theorem cd_int : CallD X (.type "int") cInt := CallD.mk1 call_int1 fun F H v d A Q Q' hS r h hn => by
  cases d with
  | int i =>
    obtain ⟨rfl, rfl⟩ := r.int_inv
    exact .inl ⟨i, rfl, hn.flat hS (.int _) h⟩
  | bl i =>
    obtain ⟨rfl, rfl⟩ := r.bl_inv
    exact .inr ⟨i, rfl, hn.flat hS (.int _) h⟩
  | _ => exact h.elim
def cMax2 : CF := c2 fun x y Q => match x, y with
  | .int i, .int j => Q (.int (max i j))
  | _, _ => False
def cMin2 : CF := c2 fun x y Q => match x, y with
  | .int i, .int j => Q (.int (min i j))
  | _, _ => False
theorem cd_max2 (hc : X.calm = true) : CallD X (.builtin "max") cMax2 := CallD.mk2 (call_max2 hc) fun F H v w d e A B Q Q' hS r r2 h hn => by
  cases d with
  | int i =>
    cases e with
    | int j =>
      obtain ⟨rfl, rfl⟩ := r.int_inv
      obtain ⟨rfl, rfl⟩ := r2.int_inv
      refine ⟨i, j, rfl, ?_⟩
      have e : (if j > i then j else i) = max i j := by split <;> omega
      rw [e]
      exact hn.flat hS (.int _) h
    | _ => exact h.elim
  | _ => exact h.elim
theorem cd_min2 (hc : X.calm = true) : CallD X (.builtin "min") cMin2 := CallD.mk2 (call_min2 hc) fun F H v w d e A B Q Q' hS r r2 h hn => by
  cases d with
  | int i =>
    cases e with
    | int j =>
      obtain ⟨rfl, rfl⟩ := r.int_inv
      obtain ⟨rfl, rfl⟩ := r2.int_inv
      refine ⟨i, j, rfl, ?_⟩
      have e : (if j < i then j else i) = min i j := by split <;> omega
      rw [e]
      exact hn.flat hS (.int _) h
    | _ => exact h.elim
  | _ => exact h.elim
/-! list, tuple -/
def cList : CF := c1 fun x Q => match x with
  | .lst _ xs => nowns xs = true ∧ Q (.lst .own xs)
  | .tup xs => nowns xs = true ∧ Q (.lst .own xs)
  | _ => False
theorem cd_list : CallD X (.type "list") cList := CallD.mk1 call_list_of fun F H v d A Q Q' hS r h hn => by
  cases d with
  | lst m xs =>
    obtain ⟨a, vs, rfl, e, rs, l⟩ := r.lst_items hS h.1
    exact ⟨a, vs, rfl, .inl (SqL_of e), fun p hp => new_list hS rs hn h.2 hp⟩
  | tup xs =>
    obtain ⟨a, vs, rfl, e, f, rs, l⟩ := r.tup_items hS h.1
    exact ⟨a, vs, rfl, .inr (SqT_of e), fun p hp => new_list hS rs hn h.2 hp⟩
  | _ => exact h.elim
def cTuple : CF := c1 fun x Q => match x with
  | .lst _ xs => nowns xs = true ∧ Q (.tup xs)
  | .tup xs => nowns xs = true ∧ Q (.tup xs)
  | _ => False
theorem cd_tuple : CallD X (.type "tuple") cTuple := CallD.mk1 call_tuple_of fun F H v d A Q Q' hS r h hn => by
  cases d with
  | lst m xs =>
    obtain ⟨a, vs, rfl, e, rs, l⟩ := r.lst_items hS h.1
    exact ⟨a, vs, rfl, .inl ⟨SqL_of e, fun p hp => new_tup hS rs hn h.2 hp⟩⟩
  | tup xs =>
    obtain ⟨a, vs, rfl, e, f, rs, l⟩ := r.tup_items hS h.1
    exact ⟨a, vs, rfl, .inr ⟨SqT_of e, hn.flat hS (.tup f rs) h.2⟩⟩
  | _ => exact h.elim
/-! sum, any, all -/
def intsD (ns : List Int) : List D := ns.map D.int
def blsD (ns : List Bool) : List D := ns.map D.bl
theorem ROs.ints {T : Tx} {F H : Hp} : ∀ {ns : List Int} {vs : List V} {A : List Addr}, ROs T F H vs (ns.map D.int) A → vs = ns.map V.int ∧ A = []
  | [], _, _, r => by cases r; exact ⟨rfl, rfl⟩
  | n :: ns, _, _, r => by
    cases r with
    | cons h r =>
      obtain ⟨rfl, rfl⟩ := h.int_inv
      obtain ⟨rfl, rfl⟩ := ROs.ints (ns := ns) r
      exact ⟨rfl, rfl⟩
theorem ROs.bls {T : Tx} {F H : Hp} : ∀ {ns : List Bool} {vs : List V} {A : List Addr}, ROs T F H vs (ns.map D.bl) A → vs = ns.map V.bl ∧ A = []
  | [], _, _, r => by cases r; exact ⟨rfl, rfl⟩
  | n :: ns, _, _, r => by
    cases r with
    | cons h r =>
      obtain ⟨rfl, rfl⟩ := h.bl_inv
      obtain ⟨rfl, rfl⟩ := ROs.bls (ns := ns) r
      exact ⟨rfl, rfl⟩
theorem nowns_ints : ∀ ns : List Int, nowns (ns.map D.int) = true
  | [] => rfl
  | _ :: ns => by rw [List.map_cons, nowns, nowns_ints ns]; rfl
theorem nowns_bls : ∀ ns : List Bool, nowns (ns.map D.bl) = true
  | [] => rfl
  | _ :: ns => by rw [List.map_cons, nowns, nowns_bls ns]; rfl
def cSum : CF := c1 fun x Q => match x with
  | .lst _ xs => ∃ ns : List Int, xs = ns.map D.int ∧ Q (.int ns.sum)
  | _ => False
theorem cd_sum (hc : X.calm = true) : CallD X (.builtin "sum") cSum := CallD.mk1 (cr_sum hc) fun F H v d A Q Q' hS r h hn => by
  cases d with
  | lst m xs =>
    obtain ⟨ns, rfl, q⟩ := h
    obtain ⟨a, vs, rfl, e, rs, l⟩ := r.lst_items hS (nowns_ints ns)
    obtain ⟨rfl, _⟩ := rs.ints
    exact ⟨a, ns, rfl, SqL_of e, hn.flat hS (.int _) q⟩
  | _ => exact h.elim
def cAny : CF := c1 fun x Q => match x with
  | .lst _ xs => ∃ ns : List Bool, xs = ns.map D.bl ∧ Q (.bl (ns.any id))
  | _ => False
theorem cd_any (hc : X.calm = true) : CallD X (.builtin "any") cAny := CallD.mk1 (cr_any hc) fun F H v d A Q Q' hS r h hn => by
  cases d with
  | lst m xs =>
    obtain ⟨ns, rfl, q⟩ := h
    obtain ⟨a, vs, rfl, e, rs, l⟩ := r.lst_items hS (nowns_bls ns)
    obtain ⟨rfl, _⟩ := rs.bls
    exact ⟨a, ns, rfl, SqL_of e, hn.flat hS (.bl _) q⟩
  | _ => exact h.elim
def cAll : CF := c1 fun x Q => match x with
  | .lst _ xs => ∃ ns : List Bool, xs = ns.map D.bl ∧ Q (.bl (ns.all id))
  | _ => False
theorem cd_all (hc : X.calm = true) : CallD X (.builtin "all") cAll := CallD.mk1 (cr_all hc) fun F H v d A Q Q' hS r h hn => by
  cases d with
  | lst m xs =>
    obtain ⟨ns, rfl, q⟩ := h
    obtain ⟨a, vs, rfl, e, rs, l⟩ := r.lst_items hS (nowns_bls ns)
    obtain ⟨rfl, _⟩ := rs.bls
    exact ⟨a, ns, rfl, SqL_of e, hn.flat hS (.bl _) q⟩
  | _ => exact h.elim
/-! sorted -/
def leD (x y : D) : Bool := PySem.W.dataLe false toPy x y
def SortsD (xs : List D) : Prop := xs.all (Pl 10) = true ∧ xs.length ≤ sizeLine ∧ PySem.W.AllAlike (xs.map toPy) ∧ PySem.W.Sortable (xs.map toPy)
theorem nown_sort {xs ys : List D} (p : xs.Perm ys) (h : nowns ys = true) : nowns xs = true := by
  have e : ∀ zs : List D, nowns zs = zs.all nown := by
    intro zs
    induction zs with
    | nil => rfl
    | cons z r ih => rw [nowns, ih]; rfl
  rw [e] at h ⊢
  rw [p.all_eq]; exact h
def cSorted : CF := c1 fun x Q => match x with
  | .lst _ xs => nowns xs = true ∧ SortsD xs ∧ Q (.lst .own (xs.mergeSort leD))
  | _ => False
theorem RelV_pair {vs : List V} {us : List Value} (h : Vals vs us) : ∀ {ds : List D}, vs.length = ds.length → PySem.W.EachIs (fun u (b : V × D) => RelV b.1 u) us (vs.zip ds) := by
  induction h with
  | nil => intro ds _; exact .nil
  | cons h _ ih =>
    intro ds e
    cases ds with
    | nil => cases e
    | cons d ds => exact .cons h (ih (by simpa using e))
theorem Reads_pair {pins : List (Addr × Obj)} {s : Shared} {σ : L2.St} {H F : Hp} {vs : List V} {us : List Value} {ds : List D} {A : List Addr} {n : Nat} (I : Inv X pins σ H s) (hS : Same F H) (h : ds.all (Pl n) = true) (r : ROs (tx X) F H vs ds A) (rv : Vals vs us) :
    PySem.W.EachIs (fun u (b : V × D) => ∃ as, Reads s.heap u (toPy b.2) as) us (vs.zip ds) := by
  induction rv generalizing ds A with
  | nil => cases r; exact .nil
  | cons h1 _ ih =>
    cases r with
    | cons r1 r2 =>
      rw [List.all_cons, Bool.and_eq_true] at h
      exact .cons (r1.rd I hS h.1 h1) (ih h.2 r2)
theorem vals_of_pair {us : List Value} {bs : List (V × D)} (h : PySem.W.EachIs (fun u (b : V × D) => RelV b.1 u) us bs) : Vals (bs.map (·.1)) us := by
  induction h with
  | nil => exact .nil
  | cons h _ ih => exact .cons h ih
theorem ROs.perm_zip {T : Tx} {F H : Hp} {vs : List V} {ds : List D} (r : ROs T F H vs ds []) {bs : List (V × D)} (p : bs.Perm (vs.zip ds)) : ROs T F H (bs.map (·.1)) (bs.map (·.2)) [] := by
  have all : ∀ b ∈ vs.zip ds, RO T F H b.1 b.2 [] := by
    have key : ∀ (vs : List V) (ds : List D) (A : List Addr), ROs T F H vs ds A → A = [] → ∀ b ∈ vs.zip ds, RO T F H b.1 b.2 [] := by
      intro vs ds A r
      induction ds generalizing vs A with
      | nil => intro _ b m; simp at m
      | cons d ds ih =>
        intro e b m
        cases r with
        | cons r1 r2 =>
          obtain ⟨rfl, rfl⟩ := app_nil e.symm
          rcases List.mem_cons.mp m with m | m
          · rw [m]; exact r1
          · exact ih _ _ r2 rfl b m
    exact key vs ds [] r rfl
  have back : ∀ bs : List (V × D), (∀ b ∈ bs, RO T F H b.1 b.2 []) → ROs T F H (bs.map (·.1)) (bs.map (·.2)) [] := by
    intro bs
    induction bs with
    | nil => intro _; exact .nil
    | cons b bs ih => intro h; exact .cons (A := []) (B := []) (h b (by simp)) (ih fun c m => h c (List.mem_cons_of_mem _ m))
  exact back bs fun b m => all b (p.mem_iff.mp m)
theorem zip_snd {vs : List V} {ds : List D} (e : vs.length = ds.length) : (vs.zip ds).map (·.2) = ds := by
  rw [List.map_snd_zip]; omega
theorem zip_fst {vs : List V} {ds : List D} (e : vs.length = ds.length) : (vs.zip ds).map (·.1) = vs := by
  rw [List.map_fst_zip]; omega
theorem Pl.mem {n : Nat} {xs : List D} (h : xs.all (Pl n) = true) {d : D} (m : d ∈ xs) : (toPy d).depth ≤ n := (Pl.plain (List.all_eq_true.mp h d m)).2
theorem cd_sorted (hu : X.A.units + 100 < cLine) : CallD X (.builtin "sorted") cSorted := by
  refine CallD.mk1 (r := fun xs H Q => ∃ F a vs ds, xs = [.ref a] ∧ Same F H ∧ H a = some (.lst vs) ∧ vs.length = ds.length ∧ ROs (tx X) F H vs ds [] ∧ SortsD ds ∧
      ∀ (p : Addr) (bs : List (V × D)), H p = none → bs.Perm (vs.zip ds) → bs.map (·.2) = ds.mergeSort leD → Q (.ref p) (upd H p (.lst (bs.map (·.1))))) ?_ fun F H v d A Q Q' hS r h hn => ?_
  · intro pins s σ H xs us Q I rv h
    obtain ⟨F, a, vs, ds, rfl, hS, ha, l, r, ⟨hp, hz, hal, hso⟩, q⟩ := h
    obtain ⟨its, rvs, hl, _⟩ := I.list (SqL_of ha)
    rw [Vals.ref1 rv]
    have em : (vs.zip ds).map (fun b => toPy b.2) = ds.map toPy := by
      rw [← zip_snd (vs := vs) (ds := ds) l, List.map_map, zip_snd l]; rfl
    refine PySem.W.sorted_data (enc := fun b : V × D => toPy b.2) (R := fun u b => RelV b.1 u) hl.isList (RelV_pair rvs l) (Reads_pair I hS hp r rvs) (by rw [em]; exact hal) (by rw [em]; exact hso) (by rw [List.length_zip]; omega) (fun b m => ?_) fun out ho eo => ?_
    · have := Pl.mem hp (List.of_mem_zip m).2
      omega
    · obtain ⟨ep, he'⟩ := PyProof.Rows.sortedAll_at s.heap its out.toArray
      have pm := List.mergeSort_perm (vs.zip ds) (PySem.W.dataLe false fun b : V × D => toPy b.2)
      have e2 : ((vs.zip ds).mergeSort (PySem.W.dataLe false fun b : V × D => toPy b.2)).map (·.2) = ds.mergeSort leD := by
        have := List.map_mergeSort (r := PySem.W.dataLe false fun b : V × D => toPy b.2) (s := leD) (f := fun b : V × D => b.2) (l := vs.zip ds) fun a _ b _ => rfl
        rw [this, zip_snd l]
      have lz : ((vs.zip ds).mergeSort (PySem.W.dataLe false fun b : V × D => toPy b.2)).length ≤ sizeLine := by rw [pm.length_eq, List.length_zip]; omega
      revert eo pm e2 lz
      generalize (vs.zip ds).mergeSort (PySem.W.dataLe false fun b : V × D => toPy b.2) = bs
      intro eo pm e2 lz
      have new : ObjOk X.prog X.w (upd H (s.heap.objs.size + 1) (.lst (bs.map (·.1)))) (PyProof.Rows.sortedAll s.heap its out.toArray) (s.heap.objs.size + 1) (.lst (bs.map (·.1))) :=
        ⟨by rw [List.length_map]; exact lz, out, ep, vals_of_pair eo, he'⟩
      exact ⟨.ref _, upd H (s.heap.objs.size + 1) (.lst (bs.map (·.1))), I.laid (t' := s.toks) (fun _ _ => PyProof.Rows.sortedAll_old) (Nat.le_succ _) new, rfl, q _ _ (I.hok.fresh (Nat.le_succ _)) pm e2⟩
  · cases d with
    | lst m xs =>
      obtain ⟨h1, h2, h3⟩ := h
      obtain ⟨a, vs, rfl, e, rs, l⟩ := r.lst_items hS h1
      refine ⟨F, a, vs, xs, rfl, hS, e, l, rs, h2, fun p bs hp pm em => ?_⟩
      have rb := rs.perm_zip pm
      rw [em] at rb
      exact new_list hS rb hn h3 hp
    | _ => exact h.elim
end
end Mf
set_option Elab.async false
set_option linter.all false
/-! Functions: what a def does to trees; calls. -/
namespace Mf
open PySem PySem.Spec PyProof.Rows L2

/-- a def and its promise, where no repr is under way -/
structure FnG (P : Program) (w : World) (K : PySem.W.Frag) (mg : Str → Option Value) (base : Heap) (CX : CXT) (k : Nat) (f : Addr) (fd : FuncData) (ps : List Str) (sp : Sp) : Prop where
  len : ∀ vs H Q E, sp vs H Q E → vs.length = ps.length
  run : ∀ (A : Around) (outer : List Env) (s : Shared) (H : Hp) (args : Args) (us : List Value) (vs : List V) (Q : VK) (E : XK), A.guards = some [] → Room k A → Env0 P w K mg base A outer s H → BindsTo s fd args (ps.zip us) → Vals vs us → sp vs H Q E →
    codeAny (model P w) A (.call (.ref f) args) (CR CX outer P w H s Q E) s
section
variable {P : Program} {w : World} {K : PySem.W.Frag} {mg : Str → Option Value} {base : Heap} {CX : CXT} {j k : Nat} {f : Addr} {fd : FuncData} {ps : List Str} {sp sp' : Sp}
theorem FnG.of (F : FnOk P w K mg base CX k f fd ps sp) : FnG P w K mg base CX k f fd ps sp := ⟨F.len, fun A outer s H args us vs Q E _ => F.run A outer s H args us vs Q E⟩
theorem FnG.mono (F : FnG P w K mg base CX j f fd ps sp) (h : j ≤ k) : FnG P w K mg base CX k f fd ps sp := ⟨F.len, fun A outer s H args us vs Q E g hr => F.run A outer s H args us vs Q E g (hr.mono h)⟩
theorem FnG.imp (F : FnG P w K mg base CX k f fd ps sp) (h : ∀ vs H Q E, sp' vs H Q E → sp vs H Q E) : FnG P w K mg base CX k f fd ps sp' :=
  ⟨fun vs H Q E q => F.len vs H Q E (h _ _ _ _ q), fun A outer s H args us vs Q E g hr he hb hv hs => F.run A outer s H args us vs Q E g hr he hb hv (h _ _ _ _ hs)⟩
theorem fnG {name qual : Str} {params : Arguments} {body : List Stmt} {scope : Scope} {dV kV doc pm cdv ct oc : Value} {an od : Option Addr} {osl : Array (Option Value)} {N : List Str}
    (lk : K.lookup f = some ⟨oc, od, .func (PySem.W.fnOf name qual params body scope dV kV doc pm an cdv ct), osl⟩) (hcd : PySem.W.codeIn K cdv qual = true) (S : FnScope N ps scope) (len : ∀ vs H Q E, sp vs H Q E → vs.length = ps.length)
    (hbody : ∀ (A : Around) (outer : List Env) (s : Shared) (H : Hp) (vs : List V) (Q : VK) (E : XK), A.guards = some [] → Room k (A.deeper (envOfC qual scope s.heap.objs.size f cdv)) → sp vs H Q E →
      ∃ t, PSs (cxOf CX P w K mg base N qual scope f cdv A outer s H E) body t ∧ t { nx := fun _ H' => Q .non H', rt := Q } (start N vs) H) :
    FnG P w K mg base CX (k + 1) f (PySem.W.fnOf name qual params body scope dV kV doc pm an cdv ct) ps sp := by
  constructor
  · exact len
  intro A outer s H args us vs Q E hg hr e0 hb r hsp
  have lvs := len _ _ _ _ hsp
  have KX : K.In s.heap := e0.mod.kin.keeps (fun b o e => (e0.bs b o e).1)
  have lim : s.heap.NoLimit := e0.mod.nolimit.keeps (fun b o e => (e0.bs b o e).1)
  have kinds : ∀ y ∈ ps.zip us, scope.names.lookup y.1 = some .local ∨
      (scope.names.lookup y.1 = some .cell ∧ ((cellsFrom (s.heap.objs.size + 1) scope.names []).lookup y.1).isSome = true) := by
    rintro ⟨n, v⟩ hy
    rcases S.par n (List.of_mem_zip hy).1 with q | q
    · exact .inl q
    · exact .inr ⟨q, PySem.W.cellsFrom_some _ _ _ (.inl q)⟩
  apply codeAny_call_function hr.depth (KX _ _ lk) rfl S.co S.gen rfl (PySem.W.codeRec_of KX hcd) (hb _ _ _ _ ?_)
  apply wpAny_newFunctionEnv_cells S.kind kinds
  intro env he s1 x
  subst he
  refine ⟨lim.keeps x.toInCall.keep, codeAny_func ?_⟩
  obtain ⟨t, ht, hq⟩ := hbody A outer s H vs Q E hg (hr.deeper _) hsp
  have I0 := inv_start (CX := CX) (E := E) S hr.hd e0 lvs r x
  apply wpAny_mono (ht.run [] s1 (start N vs) H _ I0 hq) ?_ (fun e s' hs => hs)
  intro fl s' hs
  cases fl with
  | ret u =>
    obtain ⟨v, σ', H', J, rv, q⟩ := hs
    exact ⟨v, H', J.os, J.bare, J.base, J.hok, rv, q⟩
  | next =>
    obtain ⟨σ', H', J, q⟩ := hs
    exact ⟨V.non, H', J.os, J.bare, J.base, J.hok, rfl, q⟩
  | brk => exact hs.elim fun _ z => z.elim fun _ z => z.2.elim
  | cont => exact hs.elim fun _ z => z.elim fun _ z => z.2.elim
end
section
variable {X : Cx} {CX : CXT} {k : Nat} {f : Addr} {fd : FuncData} {ps : List Str} {sp : Sp} {E : L2.St → XK} {x : Str} {p pos : Pos} {e : Expr} {es : List Expr} {t : TA}
theorem run_fnG {pins : List (Addr × Obj)} {σ : L2.St} {H : Hp} {s : Shared} {Q : VK} {us : List Value} {vs : List V} (F : FnG X.prog X.w X.K X.mg X.base CX k f fd ps sp) (hgd : X.A.guards = some []) (hr : Room k X.A) (hb : Binds X.K fd ps []) (hx : PassesAt CX X σ (E σ))
    (I : Inv X pins σ H s) (r : Vals vs us) (h : sp vs H Q (E σ)) : wpAny (model X.prog X.w) X.A (call (.ref f) us) (EP X pins σ Q) X.xe s := by
  have lus : us.length = ps.length := r.length.symm.trans (F.len _ _ _ _ h)
  have b := hb s us I.kIn (by simpa using lus)
  rw [List.append_nil] at b
  apply wpAny_call
  apply codeAny_mono (F.run X.A X.stack s H ⟨us, []⟩ us vs Q (E σ) hgd hr I.env0 b r h)
  intro r s' hq
  cases r with
  | error e => exact hx pins H s e s' I hq
  | ok fl => cases fl <;> first | exact I.after hq | exact hq.elim
theorem pe_callG (F : FnG X.prog X.w X.K X.mg X.base CX k f fd ps sp) (hgd : X.A.guards = some []) (hr : Room k X.A) (hg : Gl X x) (hm : X.mg x = some (.ref f)) (hk : PySem.W.keepIn X.K (.ref f) = true) (hb : Binds X.K fd ps []) (hx : ∀ σ, PassesAt CX X σ (E σ))
    (ha : PA X (e :: es) t) (hdb : (x == ("__debug__" : Str)) = false := by decide) (he : starEach (e :: es) X.env = (false, eval e X.env) :: starEach es X.env := by rfl) (hpl : (backTo pos (starEach es X.env)).any (·.1) = false := by rfl) :
    PE X (.Call (.Name x p) (e :: es) [] pos) (tCallS sp E t) := by
  constructor
  intro pins s σ H Q I h
  apply wpAny_Call_Name_kw (ld_glob I hg hm ?_ hdb)
  have goes := thn (ha.run pos pins s σ H _ I h) fun us s1 ⟨vs, H1, I1, r, q⟩ => (⟨I1.kIn, run_fnG F hgd hr hb (hx σ) I1 r q⟩ : X.K.In s1.heap ∧ _)
  exact PySem.W.callWith_K (h₀ := X.base) I.ok.mod.kin hk goes he hpl
end

/-- what a function is promised to do: arguments, store; what follows; what an exception meets -/
abbrev DSp := List D → Sto → (D → Sto → Prop) → (DX → Sto → Prop) → Prop
def toSp (T : Tx) (n : Nat) (d : DSp) : Sp := fun vs H Q E => vs.length = n ∧ ∃ F ds st R Q0 E0, vs.length = ds.length ∧ Abs T F H [] (vs.zip ds ++ (stR st ++ R)) ∧ d ds st Q0 E0 ∧
  (∀ v d' st' H' F', Same F F' → Abs T F' H' [] ((v, d') :: (stR st' ++ R)) → Q0 d' st' → Q v H') ∧
  (∀ cls dd x st' H' F', Same F F' → Abs T F' H' [] (stR st' ++ R) → RX T F' cls dd x → E0 x st' → E cls dd H')
structure FnD (P : Program) (w : World) (K : PySem.W.Frag) (mg : Str → Option Value) (base : Heap) (k : Nat) (x : Str) (n : Nat) (d : DSp) : Prop where
  len : ∀ ds st Q E, d ds st Q E → ds.length = n
  ex : ∃ f fd ps, ps.length = n ∧ FnG P w K mg base (L2.CX P w) k f fd ps (toSp ⟨K, mg⟩ n d) ∧ mg x = some (.ref f) ∧ PySem.W.keepIn K (.ref f) = true ∧ Binds K fd ps []
section
variable {P : Program} {w : World} {K : PySem.W.Frag} {mg : Str → Option Value} {base : Heap} {k j n : Nat} {x : Str} {d d' : DSp}
theorem FnD.mono (F : FnD P w K mg base j x n d) (h : j ≤ k) : FnD P w K mg base k x n d := by
  obtain ⟨l, f, fd, ps, e, F, r⟩ := F
  exact ⟨l, f, fd, ps, e, F.mono h, r⟩
theorem FnD.imp (F : FnD P w K mg base k x n d) (h : ∀ ds st Q E, d' ds st Q E → d ds st Q E) : FnD P w K mg base k x n d' := by
  obtain ⟨l, f, fd, ps, e, F, r⟩ := F
  exact ⟨fun ds st Q E q => l ds st Q E (h ds st Q E q), f, fd, ps, e, F.imp fun vs H Q E ⟨l, F, ds, st, R, Q0, E0, h1, h2, h3, h4⟩ => ⟨l, F, ds, st, R, Q0, E0, h1, h2, h _ _ _ _ h3, h4⟩, r⟩
end

/-! ### calls -/
def Pss (X : Cx) (W : WX) : Prop := ∀ σ, PassesAt (L2.CX X.prog X.w) X σ (WE W σ)
theorem pss_takes {X : Cx} {W : WX} (tk : Takes X W) : Pss X W := fun σ => passAt tk σ
theorem pss_no {X : Cx} : Pss X WN := fun σ pins H s e s' I c => by
  obtain ⟨a, B, H', cls, d, _, _, _, _, _, _, _, h⟩ := c
  exact h.elim
def dFn (d : DSp) (fr : AF) : DF := fun env Q E => fr env (fun ds e1 => d ds e1.st (fun r st' => Q r { e1 with st := st' }) (fun x st' => E x { e1 with st := st' })) E
section
variable {X : Cx} {W : WX} {k n : Nat} {x : Str} {d : DSp} {p pos : Pos} {e : Expr} {es : List Expr} {fr : AF}
theorem de_fn (F : FnD X.prog X.w X.K X.mg X.base k x n d) (hgd : X.A.guards = some []) (hr : Room k X.A) (hg : Gl X x) (ps : Pss X W) (ha : DA X W (e :: es) fr) (hdb : (x == ("__debug__" : Str)) = false := by decide)
    (he : starEach (e :: es) X.env = (false, eval e X.env) :: starEach es X.env := by rfl) (hpl : (backTo pos (starEach es X.env)).any (·.1) = false := by rfl) : DE X W (.Call (.Name x p) (e :: es) [] pos) (dFn d fr) := by
  obtain ⟨len, f, fd, pl, en, F, hm, hk, hb⟩ := F
  obtain ⟨t, pa, ka⟩ := ha.ex
  refine ⟨_, pe_callG (E := WE W) F hgd hr hg hm hk hb ps pa hdb he hpl, fun σ H env F R Q E Q' s f q xk => ?_⟩
  refine ka σ H env F R (fun ds e1 => d ds e1.st (fun r st' => Q r { e1 with st := st' }) (fun x st' => E x { e1 with st := st' })) E _ s f (fun vs ds e1 H1 F1 s1 l1 st1 f1 => ?_) xk
  · obtain ⟨rs, sl, ab⟩ := st1
    refine ⟨l1.trans (len _ _ _ _ f1), F1, ds, e1.st, rs ++ R, _, _, l1, ab.perm ?_, f1, fun v d' st' H' F' s' ab' q' => ?_, fun cls dd x' st' H' F' s' ab' rx q' => ?_⟩
    · have q1 : (rs ++ (stR e1.st ++ (vs.zip ds ++ R))).Perm ((stR e1.st ++ (vs.zip ds ++ R)) ++ rs) := List.perm_append_comm
      have q2 : ((stR e1.st ++ (vs.zip ds ++ R)) ++ rs).Perm (vs.zip ds ++ (stR e1.st ++ (R ++ rs))) := by
        rw [← List.append_assoc, List.append_assoc, ← List.append_assoc (vs.zip ds)]
        exact List.perm_append_comm.append_right _
      exact (q1.trans q2).trans (List.Perm.append_left _ (List.Perm.append_left _ List.perm_append_comm))
    · refine q v d' { e1 with st := st' } H' F' (s1.trans s') ⟨rs, sl, ab'.perm ?_⟩ q'
      show ((v, d') :: (stR st' ++ (rs ++ R))).Perm (rs ++ (stR st' ++ (v, d') :: R))
      have e1 : (stR st' ++ (v, d') :: R).Perm ((v, d') :: (stR st' ++ R)) := List.perm_middle
      refine List.Perm.trans ?_ (List.Perm.append_left rs e1).symm
      refine List.Perm.trans (List.Perm.cons _ ?_) List.perm_middle.symm
      rw [← List.append_assoc, ← List.append_assoc]
      exact List.perm_append_comm.append_right _
    · refine xk cls dd x' σ { e1 with st := st' } H' F' (s1.trans s') ⟨rs, sl, ab'.perm ?_⟩ rx q'
      rw [← List.append_assoc, ← List.append_assoc]
      exact List.perm_append_comm.append_right _
end

/-! ### defs -/
def startE (n : Nat) (ds : List D) (st : Sto) : En := ⟨ds.map some ++ List.replicate (n - ds.length) none, st⟩
theorem SlotR.start : ∀ {vs : List V} {ds : List D} (n : Nat), vs.length = ds.length → SlotR (vs.map some ++ List.replicate n none) (ds.map some ++ List.replicate n none) (vs.zip ds)
  | [], [], 0, _ => .nil
  | [], [], n + 1, _ => .skip (SlotR.start (vs := []) (ds := []) n rfl)
  | v :: vs, d :: ds, n, e => .cons (SlotR.start n (by simpa using e))
  | [], _ :: _, _, e => by simp at e
  | _ :: _, [], _, e => by simp at e
def spN (Q : D → Sto → Prop) (E : DX → Sto → Prop) : DN := { nx := fun e => Q .non e.st, rt := fun d e => Q d e.st, bk := fun _ => False, ct := fun _ => False, ex := fun x e => E x e.st }
section
variable {P : Program} {w : World} {K : PySem.W.Frag} {mg : Str → Option Value} {base : Heap} {k n : Nat} {x qual : Str} {d : DSp} {params : Arguments} {body : List Stmt} {scope : Scope} {f : Addr} {fd : FuncData} {N ps : List Str} {b : SF}
abbrev fX (P : Program) (w : World) (K : PySem.W.Frag) (mg : Str → Option Value) (base : Heap) (N : List Str) (qual : Str) (scope : Scope) (f : Addr) (cd : Value) (A : Around) (outer : List Env) (s : Shared) (H : Hp) (E : XK) : Cx := cxOf (L2.CX P w) P w K mg base N qual scope f cd A outer s H E
abbrev fW (E : XK) : WX := fun c d _ H => E c d H
theorem takes_f {cdv : Value} {A : Around} {outer : List Env} {s : Shared} {H : Hp} {E : XK} : Takes (fX P w K mg base N qual scope f cdv A outer s H E) (fW E) := takes_of rfl rfl rfl rfl
theorem own_f {cdv : Value} {A : Around} {outer : List Env} {s : Shared} {H : Hp} {E : XK} : PassesOwn (model P w) (fX P w K mg base N qual scope f cdv A outer s H E).A (fX P w K mg base N qual scope f cdv A outer s H E).env (fX P w K mg base N qual scope f cdv A outer s H E).xe := passes_of (X := fX P w K mg base N qual scope f cdv A outer s H E) rfl
theorem FnD.mk' (F : FunD K x qual params body scope [] [] f fd) (S : FnScope N ps scope) (gm : mg x = some (.ref f)) (bd : Binds K fd ps []) (len : ∀ ds st Q E, d ds st Q E → ds.length = ps.length)
    (hb : ∀ (cdv : Value) (A : Around) (outer : List Env) (s : Shared) (H : Hp) (E : XK), A.guards = some [] → Room k (fX P w K mg base N qual scope f cdv A outer s H E).A → DB (fX P w K mg base N qual scope f cdv A outer s H E) (fW E) body b)
    (math : ∀ ds st Q E, d ds st Q E → b (spN Q E) (startE N.length ds st)) : FnD P w K mg base (k + 1) x ps.length d := by
  obtain ⟨oc, od, dV, kV, doc, pm, an, cdv, ct, osl, rfl, lk, hcd, _, _⟩ := F.ex
  refine ⟨len, f, _, ps, rfl, fnG lk hcd S (fun vs H Q E h => h.1) (fun A outer s H vs Q E hgd hr h => ?_), gm, F.kp, bd⟩
  obtain ⟨t, pt, kt⟩ := (hb cdv A outer s H E hgd hr).ex
  refine ⟨t, pt, ?_⟩
  obtain ⟨l, F0, ds, st, R, Q0, E0, e, ab, dd, q, xk⟩ := h
  have hs : StA ⟨K, mg⟩ F0 H (start N vs) (startE N.length ds st) [] R := ⟨vs.zip ds, by
    show SlotR (vs.map some ++ List.replicate (N.length - vs.length) none) (ds.map some ++ List.replicate (N.length - ds.length) none) (vs.zip ds)
    rw [e]
    exact SlotR.start _ e, ab⟩
  have dropL : ∀ {F' H' σ' e'} {r : Rs}, StA ⟨K, mg⟩ F' H' σ' e' [] r → Abs ⟨K, mg⟩ F' H' [] (stR e'.st ++ r) := fun {F' H' σ' e' r} ⟨rs, _, a⟩ => a.drop
  refine kt (start N vs) H (startE N.length ds st) F0 R (spN Q0 E0) { nx := fun _ H' => Q .non H', rt := Q } hs (math ds st Q0 E0 dd) ⟨?_, ?_, ?_, ?_⟩ ?_
  · intro σ e H' F' s' st' q'
    exact q .non .non e.st H' F' s' ((dropL st').push .non) q'
  · intro v d' σ e H' F' s' st' q'
    refine q v d' e.st H' F' s' ((dropL st').perm ?_) q'
    exact List.perm_middle
  · intro _ _ _ _ _ _ q'; exact q'.elim
  · intro _ _ _ _ _ _ q'; exact q'.elim
  · intro cls dd' x' σ e H' F' s' st' rx q'
    exact xk cls dd' x' e.st H' F' s' (dropL st') rx q'
end
end Mf
set_option Elab.async false
set_option linter.all false
set_option maxRecDepth 100000
set_option maxHeartbeats 1000000
/-! Own exceptions: their __init__, raise, try. -/
namespace Mf
open PySem PySem.Spec PyProof.Rows L2

/-- LostError: an own class under ValueError whose __init__ is ValueError's -/
structure LeC (K : PySem.W.Frag) (C : Addr) : Prop where
  ga : PySem.W.specialIn K (.ref C) "__getattribute__" = some (some (.builtin "type.__getattribute__"))
  rd : PySem.W.readsIn K C (.type "type") = true
  fi : PySem.W.findCls K (.ref C) (.type "type") "__init__" = some (.val (.builtin "ValueError.__init__"))
section
variable {X : Cx} {e : Expr} {es : List Expr} {ta : TA} {x : Str} {p1 p2 pos : Pos} {C : Addr}
theorem pe_leinit {pl : Sem Bool} (L : LeC X.K C) (hg : Gl X x) (hm : X.mg x = some (.ref C)) (ha : PA X (e :: es) ta)
    (hc : eval (.Call (.Attribute (.Name x p1) "__init__" p2) (e :: es) [] pos) X.env = (do
      let ov ← eval (.Name x p1) X.env
      standAt p2.atName
      let (f, first) ← holding [ov] (getMethod ov "__init__" pl)
      callWith pos f first (backTo pos (starEach (e :: es) X.env)) (backToKw pos (keywordEach [] X.env))) := by rfl)
    (he : starEach (e :: es) X.env = (false, eval e X.env) :: starEach es X.env := by rfl) (hpl : (backTo pos (starEach es X.env)).any (·.1) = false := by rfl) (hdb : (x == ("__debug__" : Str)) = false := by decide) :
    PE X (.Call (.Attribute (.Name x p1) "__init__" p2) (e :: es) [] pos) (tVeI X.K ta) := by
  refine ⟨fun pins s σ H Q I h => ?_⟩
  refine PySem.W.methodCall_KW (ld_glob I hg hm ?_ hdb) hc
  refine PySem.W.method_cls I.kIn L.ga (PySem.W.cls_value I.kIn L.rd L.fi (by decide +kernel) ?_)
  show wpAny _ _ (callWith pos (Value.builtin "ValueError.__init__") [] (backTo pos (starEach (e :: es) X.env)) []) _ _ _
  refine PyProof.Rows.callWith_method1 (thn (ha.run pos pins _ σ H _ (I.tok _) h) fun us s1 ⟨vs, H1, I1, r1, a, C, ws, ev, hl, T, ea, q⟩ => ?_) he hpl
  subst ev
  cases r1 with
  | @cons _ u0 _ ur ra rw' =>
    obtain rfl : u0 = Value.ref a := ra
    have hlen : ur.length ≤ sizeLine := by
      rw [← Paired.length rw', sizeLine_eq]
      omega
    exact oinit_ok T I1 ea hlen fun s' J => ⟨.non, H1, J, rfl, q⟩
end

/-! ### __init__ -/
section
variable {P : Program} {w : World} {K : PySem.W.Frag} {mg : Str → Option Value} {base : Heap} {x qual f g : Str} {params : Arguments} {scope : Scope} {fa C0 : Addr} {fd : FuncData} {text : Str} {p1 p2 p3 p4 p5 p6 p7 p8 p9 q1 q2 q3 q4 : Pos} {j1 : Nat}
/-- what C(y, ..) leaves -/
def spI1 (K : PySem.W.Frag) (f : Str) : Sp := fun vs H Q _ => ∃ (a C : Addr) (y : V), vs = [.ref a, y] ∧ OexC K C ∧ PySem.W.findIn K (.ref C) f = some none ∧ H a = some (exo a C none) ∧
  ∀ dx, H dx = none → dx ≠ a → Q .non (upd (upd H dx (exd dx [(f, y)])) a (exo a C (some dx)))
def spI2 (K : PySem.W.Frag) (f g : Str) : Sp := fun vs H Q _ => ∃ (a C : Addr) (y z : V), vs = [.ref a, y, z] ∧ OexC K C ∧ PySem.W.findIn K (.ref C) f = some none ∧ PySem.W.findIn K (.ref C) g = some none ∧ H a = some (exo a C none) ∧
  ∀ dx, H dx = none → dx ≠ a → Q .non (upd (upd (upd H dx (exd dx [(f, y)])) a (exo a C (some dx))) dx (exd dx [(g, z), (f, y)]))
def bI1 (f : Str) (text : Str) (j1 : Nat) (p1 p2 p3 p4 p5 p6 q1 q2 q3 q4 : Pos) : List Stmt :=
  [.Expr (.Call (.Attribute (.Name "LostError" p1) "__init__" p2) [.Name "self" p3, .Constant (.str text) j1 p4] [] p5) p6, .Assign [.Attribute (.Name "self" q1) f q2] (.Name f q3) q4]
/-- the call of the base's __init__ is read as a method call: «fun _ => ⟨_, rfl⟩» where the places are written out -/
def IniCall (text : Str) (j1 : Nat) (p1 p2 p3 p4 p5 : Pos) : Prop := ∀ env : Env, ∃ pl : Sem Bool, eval (.Call (.Attribute (.Name "LostError" p1) "__init__" p2) [.Name "self" p3, .Constant (.str text) j1 p4] [] p5) env = (do
      let ov ← eval (.Name "LostError" p1) env
      standAt p2.atName
      let (f, first) ← holding [ov] (getMethod ov "__init__" pl)
      callWith p5 f first (backTo p5 (starEach [.Name "self" p3, .Constant (.str text) j1 p4] env)) (backToKw p5 (keywordEach [] env)))
theorem ok_I1 (ic : IniCall text j1 p1 p2 p3 p4 p5) (F : FunD K x qual params (bI1 f text j1 p1 p2 p3 p4 p5 p6 q1 q2 q3 q4) scope [] [] fa fd) (S : FnScope ["self", f] ["self", f] scope) (gm : mg "LostError" = some (.ref C0)) (L : LeC K C0)
    (vs : scope.names.lookup (Str.ofString "self") = some .local) (vf : scope.names.lookup f = some .local) (gl : scope.names.lookup (Str.ofString "LostError") = some .globalImplicit) (hd : (f == ("__debug__" : Str)) = false) (hcd : (f == ("__classdict__" : Str)) = false) :
    FnOk P w K mg base (L2.CX P w) 1 fa fd ["self", f] (spI1 K f) := by
  refine F.ok S (fun vs H Q E ⟨a, C, y, h, _⟩ => by rw [h]; rfl) (fun cdv A outer s H vs' Q E hr h => ?_)
  obtain ⟨pl, hc⟩ := ic (cxOf (L2.CX P w) P w K mg base ["self", f] qual scope fa cdv A outer s H E).env
  refine ⟨_, pss_cons (ps_expr (pe_leinit L gl gm (pa_cons (pe_var (i := 0) rfl (.inl vs)) (pa_cons pe_str pa_nil)) hc)) (pss_one (ps_ost (pe_var (i := 0) rfl (.inl vs)) (pe_var (i := 1) rfl (.inl vf) hd hcd))), ?_⟩
  obtain ⟨a, C, y, rfl, T, hno, ha, q⟩ := h
  refine ⟨_, rfl, a, C, _, rfl, by simp, T, ha, ?_⟩
  refine ⟨_, rfl, _, rfl, a, C, rfl, T, hno, .inl ⟨ha, fun dx n ne => q dx n ne⟩⟩
def bI2 (f g : Str) (text : Str) (j1 : Nat) (p1 p2 p3 p4 p5 p6 q1 q2 q3 q4 p7 p8 p9 q5 : Pos) : List Stmt :=
  [.Expr (.Call (.Attribute (.Name "LostError" p1) "__init__" p2) [.Name "self" p3, .Constant (.str text) j1 p4] [] p5) p6, .Assign [.Attribute (.Name "self" q1) f q2] (.Name f q3) q4, .Assign [.Attribute (.Name "self" p7) g p8] (.Name g p9) q5]
theorem ok_I2 {q5 : Pos} (ic : IniCall text j1 p1 p2 p3 p4 p5) (F : FunD K x qual params (bI2 f g text j1 p1 p2 p3 p4 p5 p6 q1 q2 q3 q4 p7 p8 p9 q5) scope [] [] fa fd) (S : FnScope ["self", f, g] ["self", f, g] scope) (gm : mg "LostError" = some (.ref C0)) (L : LeC K C0)
    (vs : scope.names.lookup (Str.ofString "self") = some .local) (vf : scope.names.lookup f = some .local) (vg : scope.names.lookup g = some .local) (gl : scope.names.lookup (Str.ofString "LostError") = some .globalImplicit) (hd : (f == ("__debug__" : Str)) = false) (hcd : (f == ("__classdict__" : Str)) = false) (hd2 : (g == ("__debug__" : Str)) = false) (hcd2 : (g == ("__classdict__" : Str)) = false) :
    FnOk P w K mg base (L2.CX P w) 1 fa fd ["self", f, g] (spI2 K f g) := by
  refine F.ok S (fun vs H Q E ⟨a, C, y, z, h, _⟩ => by rw [h]; rfl) (fun cdv A outer s H vs' Q E hr h => ?_)
  obtain ⟨pl, hc⟩ := ic (cxOf (L2.CX P w) P w K mg base ["self", f, g] qual scope fa cdv A outer s H E).env
  refine ⟨_, pss_cons (ps_expr (pe_leinit L gl gm (pa_cons (pe_var (i := 0) rfl (.inl vs)) (pa_cons pe_str pa_nil)) hc)) (pss_cons (ps_ost (pe_var (i := 0) rfl (.inl vs)) (pe_var (i := 1) rfl (.inl vf) hd hcd)) (pss_one (ps_ost (pe_var (i := 0) rfl (.inl vs)) (pe_var (i := 2) rfl (.inl vg) hd2 hcd2)))), ?_⟩
  obtain ⟨a, C, y, z, rfl, T, hno, hno2, ha, q⟩ := h
  refine ⟨_, rfl, a, C, _, rfl, by simp, T, ha, ?_⟩
  refine ⟨_, rfl, _, rfl, a, C, rfl, T, hno, .inl ⟨ha, fun dx n ne => ?_⟩⟩
  refine ⟨_, rfl, _, rfl, a, C, rfl, T, hno2, .inr ⟨dx, [(f, y)], by rw [upd_same], by rw [upd_ne ne, upd_same], by simp, q dx n ne⟩⟩
/-- a class whose __init__ takes no more than self -/
def spI0 (K : PySem.W.Frag) : Sp := fun vs H Q _ => ∃ (a C : Addr), vs = [.ref a] ∧ OexC K C ∧ H a = some (exo a C none) ∧ Q .non H
end
/-! ### raise -/
/-- an own exception class: its attributes, in order -/
structure XcD (P : Program) (w : World) (K : PySem.W.Frag) (mg : Str → Option Value) (base : Heap) (c : Str) (fs : List Str) : Prop where
  ex : ∃ C fI fd ps sp, mg c = some (.ref C) ∧ OexC K C ∧ PySem.W.findIn K (.ref C) "__init__" = some (some (.ref fI)) ∧ PySem.W.typeIn K (.ref fI) = some (.type "function") ∧ FnOk P w K mg base (L2.CX P w) 1 fI fd ps sp ∧ Binds K fd ps [] ∧
    ∀ (ws : List V) (H : Hp) (Q : VK) (E : XK) (a : Addr), ws.length = fs.length → H a = none → (∀ d H2, H d = none → d ≠ a → H2 a = some (exo a C (some d)) → H2 d = some (exd d (fs.zip ws).reverse) → (∀ b, b ≠ a → b ≠ d → H2 b = H b) → Q .non H2) → sp (.ref a :: ws) (upd H a (exo a C none)) Q E
section
variable {P : Program} {w : World} {K : PySem.W.Frag} {mg : Str → Option Value} {base : Heap} {c f g : Str} {C fI : Addr} {fd : FuncData}
theorem XcD.one (gm : mg c = some (.ref C)) (T : OexC K C) (fi : PySem.W.findIn K (.ref C) "__init__" = some (some (.ref fI))) (ty : PySem.W.typeIn K (.ref fI) = some (.type "function")) (F : FnOk P w K mg base (L2.CX P w) 1 fI fd ["self", f] (spI1 K f)) (b : Binds K fd ["self", f] [])
    (no : PySem.W.findIn K (.ref C) f = some none) : XcD P w K mg base c [f] := by
  refine ⟨C, fI, fd, _, _, gm, T, fi, ty, F, b, fun ws H Q E a l ha q => ?_⟩
  match ws, l with
  | [y], _ =>
    refine ⟨a, C, y, rfl, T, no, upd_same, fun dx n ne => ?_⟩
    refine q dx _ (by rw [upd_ne ne] at n; exact n) ne upd_same (by rw [upd_ne ne, upd_same]; rfl) fun b h1 h2 => by rw [upd_ne h1, upd_ne h2, upd_ne h1]
theorem XcD.two (gm : mg c = some (.ref C)) (T : OexC K C) (fi : PySem.W.findIn K (.ref C) "__init__" = some (some (.ref fI))) (ty : PySem.W.typeIn K (.ref fI) = some (.type "function")) (F : FnOk P w K mg base (L2.CX P w) 1 fI fd ["self", f, g] (spI2 K f g)) (b : Binds K fd ["self", f, g] [])
    (no : PySem.W.findIn K (.ref C) f = some none) (no2 : PySem.W.findIn K (.ref C) g = some none) : XcD P w K mg base c [f, g] := by
  refine ⟨C, fI, fd, _, _, gm, T, fi, ty, F, b, fun ws H Q E a l ha q => ?_⟩
  match ws, l with
  | [y, z], _ =>
    refine ⟨a, C, y, z, rfl, T, no, no2, upd_same, fun dx n ne => ?_⟩
    refine q dx _ (by rw [upd_ne ne] at n; exact n) ne (by rw [upd_ne ne.symm, upd_same]) (by rw [upd_same]; rfl) fun b h1 h2 => by rw [upd_ne h2, upd_ne h1, upd_ne h2, upd_ne h1]
end
section
variable {X : Cx} {W : WX} {c : Str} {fs : List Str} {p pos pos' : Pos} {e : Expr} {es : List Expr} {fr : AF}
def sRaise (c : Str) (fs : List Str) (fr : AF) : SF := fun N env => fr env (fun ds e1 => ds.length = fs.length ∧ N.ex ⟨c, (fs.zip (fzs ds)).reverse⟩ e1) N.ex
theorem StA.freezeAll {T : Tx} {H : Hp} {σ : L2.St} {e : En} {L : List Addr} : ∀ {vs : List V} {ds : List D} {F : Hp} {R : Rs}, vs.length = ds.length → StA T F H σ e L (vs.zip ds ++ R) → ∃ F', Same F F' ∧ StA T F' H σ e L R ∧ ROs T F' H vs (fzs ds) []
  | [], [], F, R, _, h => ⟨F, Same.refl _, h, .nil⟩
  | v :: vs, d :: ds, F, R, l, h => by
    obtain ⟨F1, s1, h1⟩ := StA.freeze (R := vs.zip ds ++ R) h
    have r1 := h1.abs.head0 (nown_fz d)
    obtain ⟨F2, s2, h2, r2⟩ := StA.freezeAll (by simpa using l) h1.tail
    exact ⟨F2, s1.trans s2, h2, .cons (A := []) (B := []) (r1.mono s2 (Same.refl _)) r2⟩
  | [], _ :: _, _, _, l, _ => by simp at l
  | _ :: _, [], _, _, l, _ => by simp at l
theorem ROs.rev {T : Tx} {F H : Hp} : ∀ {vs : List V} {ds : List D}, ROs T F H vs ds [] → ROs T F H vs.reverse ds.reverse [] := by
  have key : ∀ (ds : List D) (vs : List V) (A : List Addr), ROs T F H vs ds A → A = [] → ROs T F H vs.reverse ds.reverse [] := by
    intro ds
    induction ds with
    | nil => intro vs A r _; cases r; exact .nil
    | cons d ds ih =>
      intro vs A r e
      cases r with
      | cons r1 r2 =>
        obtain ⟨rfl, rfl⟩ := app_nil e.symm
        rw [List.reverse_cons, List.reverse_cons]
        exact (ih _ _ r2 rfl).app (.cons (A := []) (B := []) r1 .nil)
  intro vs ds r
  exact key ds vs [] r rfl
theorem ds_raise (hc : X.calm = true) (tk : Takes X W) (hr : Room 2 X.A) (C : XcD X.prog X.w X.K X.mg X.base c fs) (hg : Gl X c) (ha : DA X W (e :: es) fr) (hdb : (c == ("__debug__" : Str)) = false := by decide)
    (he : starEach (e :: es) X.env = (false, eval e X.env) :: starEach es X.env := by rfl) (hpl : (backTo pos (starEach es X.env)).any (·.1) = false := by rfl) (hfs : fs.length ≤ 900 := by decide) : DS X W (.Raise (some (.Call (.Name c p) (e :: es) [] pos)) none pos') (sRaise c fs fr) := by
  obtain ⟨C, fI, fd, ps, sp, hm, T, iC, tI, F1, hb, q1⟩ := C.ex
  obtain ⟨t, pa, k⟩ := ha.ex
  have pm := pmk_oex (p := p) (pos := pos) (dvs := []) T iC tI F1 hr hb .nil (fun pins σ H s e s' I c => by
    obtain ⟨_, _, _, _, _, _, _, _, _, _, _, _, h⟩ := c
    exact h.elim) hg hm pa hdb he hpl
  refine ⟨_, ps_raise hc tk pm, fun σ H env F R N D' s f z x => ?_⟩
  refine k σ H env F R (fun ds e1 => ds.length = fs.length ∧ N.ex ⟨c, (fs.zip (fzs ds)).reverse⟩ e1) N.ex _ s f (fun vs ds e1 H1 F1 s1 l1 st1 f1 => ?_) x
  refine ⟨by rw [l1, f1.1]; omega, fun a ha => ?_⟩
  rw [List.append_nil]
  refine q1 vs H1 _ _ a (l1.trans f1.1) ha fun d H2 hd ne e1' e2' rest => ⟨rfl, d, _, e1', e2', hd, ?_⟩
  obtain ⟨F2, s2, st2, r2⟩ := StA.freezeAll l1 st1
  have eH : upd (del H2 a) d (.xd (fs.zip vs).reverse) = upd H1 d (.xd (fs.zip vs).reverse) := by
    funext b
    by_cases h1 : b = d
    · rw [h1, upd_same, upd_same]
    · rw [upd_ne h1, upd_ne h1]
      by_cases h2 : b = a
      · rw [h2, del_same, ha]
      · rw [del_ne h2, rest b h2 h1]
  rw [eH]
  have g := Gr.newF st2.same (o := .xd (fs.zip vs).reverse) hd
  refine x (.ref C) (some d) ⟨c, (fs.zip (fzs ds)).reverse⟩ σ e1 _ _ ((s1.trans s2).trans g.f) (st2.gr g) ⟨C, d, _, hm, rfl, rfl, upd_same, ?_, ?_⟩ f1.2
  · rw [List.map_reverse, List.map_reverse, List.map_fst_zip, List.map_fst_zip]
    · rw [fzs_eq, List.length_map]; omega
    · omega
  · rw [List.map_reverse, List.map_reverse, List.map_snd_zip, List.map_snd_zip]
    · exact (r2.free (H' := upd F2 d (.xd (fs.zip vs).reverse)) rfl |>.mono g.f (Same.refl _)).rev
    · rw [fzs_eq, List.length_map]; omega
    · omega
end
end Mf
set_option Elab.async false
set_option linter.all false
set_option maxRecDepth 100000
set_option maxHeartbeats 1000000
/-! try with several clauses, named or not. -/
namespace Mf
open PySem PySem.Spec PyProof.Rows L2

abbrev HdT := Addr → Value → Option Addr → TS
/-- the name of a clause: its slot -/
def putO : Option (Nat × Str) → Addr → L2.St → L2.St
  | none, _, σ => σ
  | some p, a, σ => σ.set p.1 (some (.ref a))
def outO : Option (Nat × Str) → L2.St → L2.St
  | none, σ => σ
  | some p, σ => σ.set p.1 none
def backO (o : Option (Nat × Str)) (D : Ends) : Ends := ⟨fun σ H => D.nx (outO o σ) H, D.rt, fun σ H => D.bk (outO o σ) H, fun σ H => D.ct (outO o σ) H⟩
def wTry (K : PySem.W.Frag) (Wout : WX) (D : Ends) : List (Value × Option (Nat × Str) × HdT) → WX
  | [] => Wout
  | (c, o, ts) :: r => fun cls d σ H => ∃ b, PySem.W.exmOne K cls c = some b ∧ (b = true → ∀ a, H a = none → ts a cls d (backO o D) (putO o a σ) H) ∧ (b = false → wTry K Wout D r cls d σ H)
inductive HdsX (X : Cx) : List ExceptHandler → List (Value × Option (Nat × Str) × HdT) → Prop
  | nil : HdsX X [] []
  | cons {x : Str} {c : Value} {o : Option (Nat × Str)} {ts : HdT} {b₀ : Stmt} {su : List Stmt} {np ps : Pos} {hds : List ExceptHandler} {l : List (Value × Option (Nat × Str) × HdT)} (hc : Names X x c) (ho : ∀ p, o = some p → X.N[p.1]? = some p.2 ∧ X.env.kindOf p.2 = some .local)
      (hsu : ∀ (a : Addr) (oe : Obj) (cls : Value) (d : Option Addr) (pn : List (Addr × Obj)), Zc cls d oe → (∃ vs, oe.data = .fields vs) → PSs (X.suite a ((a, oe) :: pn)) (b₀ :: su) (ts a cls d)) (r : HdsX X hds l) :
      HdsX X (.ExceptHandler (some (.Name x np)) (o.map (·.2)) (b₀ :: su) ps :: hds) ((c, o, ts) :: l)
section
variable {X : Cx} {body : List Stmt} {h₀ : ExceptHandler} {hds : List ExceptHandler} {l : List (Value × Option (Nat × Str) × HdT)} {pos : Pos} {tb : WX → TS} {Wout : WX}
theorem ps_tryX (hs : X.stack = X.env :: X.outer) (hf : X.env.frame = some X.env.locals) (hN : X.N.Nodup) (tk : Takes X Wout)
    (hb : ∀ (W : WX) (pn : List (Addr × Obj)) (xe : Value → Shared → Prop), Takes (X.tr pn xe) W → PassesOwn (model X.prog X.w) X.A X.env xe → PSs (X.tr pn xe) body (tb W))
    (hh : HdsX X (h₀ :: hds) l) : PS X (.Try body (h₀ :: hds) [] [] pos) (fun D σ H => tb (wTry X.K Wout D l) D σ H) := by
  constructor
  intro pins s σ H D I hyp
  have okX := I.ok
  have hfr : X.A.frames = some (X.env :: X.outer) := by rw [okX.frames, hs]
  apply wpAny_Try_except
  refine wpAny_mono ((hb (wTry X.K Wout D l) (X.pn ++ pins)
    (fun e t1 => wpAny (model X.prog X.w) X.A (noteFrame e X.env)
      (fun _ t2 => wpAny (model X.prog X.w) X.A (setFlight e none)
        (fun _ t3 => wpAny (model X.prog X.w) X.A (handleBy e X.env (h₀ :: hds)) (SP X pins D) X.xe t3) X.xe t2) X.xe t1)
    (fun u s1 xx => ?_) PassesOwn.looking).run [] s σ H D (I.toTry _) hyp) (fun f t1 sp1 => ?_) (fun _ _ he => he)
  · obtain ⟨a, B, sI, pinsI, σ1, H1, cls, d, rfl, Jt, nb, up, sky, na, os, ag, wsh⟩ := xx
    have J : Inv X pins σ1 H1 sI := Jt.ofTry okX
    have skyX : Sky B (X.env :: X.outer) a (Zc cls d) X.env.locals s1.heap := hs ▸ sky
    show wpAny (model X.prog X.w) X.A (noteFrame (.ref a) X.env) _ _ _
    apply Sky.land Zc.steady hfr hf skyX
    intro g1 fl1 up1
    have K1 : Inv X pins σ1 H1 { s1 with heap := g1 } := J.landed nb fl1.1 (up.trans up1) os ag
    obtain ⟨ob, fv, atA, zc1, dat1⟩ := fl1.there
    have outside : a ∉ frs (X.env :: X.outer) := by
      intro hm
      obtain ⟨_, o', e', hnf⟩ := fl1.2.2.1.mem hm
      rw [atA] at e'
      cases e'
      exact hnf _ dat1
    have nL : a ≠ X.env.locals := fun z => outside (List.mem_filterMap.mpr ⟨X.env, List.mem_cons_self, by rw [hf, z]⟩)
    have nF : a ∉ X.fs := by
      intro hm
      obtain ⟨e, he, q⟩ := List.mem_filterMap.mp hm
      exact outside (List.mem_filterMap.mpr ⟨e, List.mem_cons_of_mem _ he, q⟩)
    have S1 := K1.suite atA dat1 na nL nF
    have go : ∀ {hdl : List ExceptHandler} {ll : List (Value × Option (Nat × Str) × HdT)}, HdsX X hdl ll → wTry X.K Wout D ll cls d σ1 H1 → wpAny (model X.prog X.w) X.A (handleBy (.ref a) X.env hdl) (SP X pins D) X.xe { s1 with heap := g1 } := by
      intro hdl ll hk
      induction hk with
      | nil =>
        intro wsh
        apply wpAny_handleBy_nil
        obtain ⟨_, _, _, oe, vs, T, oT, _, he, hz, hd, h1, hr⟩ := id fl1
        unfold PySem.passOn
        refine wpAny_bind (wpAny_field he hd h1 ?_)
        rw [if_neg (show ¬ ((Value.ref T == Value.none) = true) from by simp)]
        have fin : wpAny (model X.prog X.w) X.A (setFlight (.ref a) X.env.frame) (fun _ t4 => wpAny (model X.prog X.w) X.A (throw (.ref a) : Sem Flow) (SP X pins D) X.xe t4) X.xe { s1 with heap := g1 } := by
          rw [hf]
          apply HandSPX.setFlight_upZ fl1
          intro g2 hh2 up2
          apply wpAny_throw
          exact tk _ _ ⟨a, B, sI, pins, σ1, H1, cls, d, rfl, J, nb, (up.trans up1).trans up2, .inr (.inr (hs.symm ▸ hh2)), na, os, ag, wsh⟩
        first | exact wpAny_bind (wpAny_pure (wpAny_bind fin)) | exact wpAny_bind fin
      | @cons x c o ts b₀ su np ps hds2 l2 hc ho hsu r ih =>
        rintro ⟨b, hb1, hyes, hno⟩
        apply wpAny_handleBy_cons (codeAny_handlers_test ?_) (by intro q; cases q)
        have LT : PySem.W.Looks (model X.prog X.w) g1 (typeOf (.ref a)) cls := by
          intro A Q E t k q
          exact wpAny_typeOf_ref (k _ _ atA) (by rw [zc1.1]; exact q)
        have LM := PySem.W.exm_one (M := model X.prog X.w) (K1.kIn) LT hb1
        have test : ∀ {Q : Value → Shared → Prop} {E : Value → Shared → Prop}, Q c { s1 with heap := g1 } →
            wpAny (model X.prog X.w) (X.A.mark (some (.ref a))) (eval (.Name x np) X.env) Q E { s1 with heap := g1 } := by
          intro Q E q
          rcases hc with ⟨hg, hdbg, hm | ⟨hm, hv, hnn⟩⟩
          · apply ld_glob (X := X.suite a ((a, ob) :: (X.pn ++ pins))) S1 hg hm q hdbg
          · apply ld_blt (X := X.suite a ((a, ob) :: (X.pn ++ pins))) S1 hg hm hv q hnn hdbg
        apply test
        apply LM.here
        cases b with
        | false =>
          show wpAny _ X.A (handleBy (.ref a) X.env hds2) _ _ _
          exact ih (hno rfl)
        | true =>
          have yes := hyes rfl a na
          cases o with
          | none =>
            apply codeAny_handlers_suite
            apply HandSPX.lands_againZ fl1
            intro g2 fl2 up2
            obtain ⟨ob2, fv2, at2, zc2, dat2⟩ := fl2.there
            have K2 : Inv X pins σ1 H1 { s1 with heap := g2 } := J.landed nb fl2.1 ((up.trans up1).trans up2) os ag
            have S2 := K2.suite at2 dat2 na nL nF
            refine wpAny_mono ((hsu a ob2 cls d (X.pn ++ pins) zc2 ⟨_, dat2⟩).run [] _ _ H1 _ S2 yes) (fun f t6 sp6 => ?_) (fun _ _ z => z.elim)
            cases f <;> first
              | (obtain ⟨σ6, H6, S6, q6⟩ := sp6; exact ⟨_, _, S6.unsuite okX, q6⟩)
              | (obtain ⟨v6, σ6, H6, S6, r6, q6⟩ := sp6; exact ⟨_, _, _, S6.unsuite okX, r6, q6⟩)
          | some p =>
            obtain ⟨hi, hln⟩ := ho p rfl
            apply codeAny_handlers_suite_as
            apply HandSPX.lands_againZ fl1
            intro g2 fl2 up2
            obtain ⟨ob2, fv2, at2, zc2, dat2⟩ := fl2.there
            have K2 : Inv X pins σ1 H1 { s1 with heap := g2 } := J.landed nb fl2.1 ((up.trans up1).trans up2) os ag
            have S2 := K2.suite at2 dat2 na nL nF
            refine store_ok (X := X.suite a ((a, ob2) :: (X.pn ++ pins))) (v := .ref a) S2 hN hi (.inl hln) rfl (fun t5 S5 => ?_) (.inr hln)
            refine wpAny_mono ((hsu a ob2 cls d (X.pn ++ pins) zc2 ⟨_, dat2⟩).run [] t5 _ H1 _ S5 yes) (fun f t6 sp6 => ?_) (fun _ _ z => z.elim)
            have away : ∀ {σ6 : L2.St} {H6 : Hp} {Q : Shared → Prop}, Inv (X.suite a ((a, ob2) :: (X.pn ++ pins))) [] σ6 H6 t6 → (∀ t7, Inv X pins (σ6.set p.1 none) H6 t7 → Q t7) →
                wpAny (model X.prog X.w) X.A (do bindName X.env p.2 .none; unbindBehindTheSuite X.env p.2 ps) (fun _ t7 => Q t7) X.xe t6 := by
              intro σ6 H6 Q S6 hq
              exact gone_ok (S6.unsuite okX) hN hi hln hq
            cases f <;> first
              | (obtain ⟨σ6, H6, S6, q6⟩ := sp6; exact away S6 fun t7 J7 => ⟨_, _, J7, q6⟩)
              | (obtain ⟨v6, σ6, H6, S6, r6, q6⟩ := sp6; exact away S6 fun t7 J7 => ⟨_, _, _, J7, r6, q6⟩)
    exact go hh wsh
  cases f with
  | ret u =>
    obtain ⟨v, σ1, H1, J1, r1, q1⟩ := sp1
    exact ⟨v, σ1, H1, J1.ofTry okX, r1, q1⟩
  | next =>
    obtain ⟨σ1, H1, J1, q1⟩ := sp1
    exact wpAny_execs_nil ⟨σ1, H1, J1.ofTry okX, q1⟩
  | brk =>
    obtain ⟨σ1, H1, J1, q1⟩ := sp1
    exact ⟨σ1, H1, J1.ofTry okX, q1⟩
  | cont =>
    obtain ⟨σ1, H1, J1, q1⟩ := sp1
    exact ⟨σ1, H1, J1.ofTry okX, q1⟩
end

/-! ### over trees -/
def exb (h c : Str) : Bool := h == Str.ofString "LostError" || h == c
/-- the law's own exception classes, the names of their attributes -/
structure Exs (K : PySem.W.Frag) (mg : Str → Option Value) (cs fl : List Str) : Prop where
  cl : ∀ c ∈ cs, ∃ C, mg c = some (.ref C) ∧ XfC K C ∧ ∀ f ∈ fl, PySem.W.findIn K (.ref C) f = some none
  ma : ∀ h ∈ cs, ∀ c ∈ cs, ∀ Ch Cc, mg h = some (.ref Ch) → mg c = some (.ref Cc) → PySem.W.exmOne K (.ref Cc) (.ref Ch) = some (exb h c)
abbrev Ghost := Addr × Addr × Str
def clrO (o : Option Nat) (e : En) : En := match o with
  | some i => clrS e i
  | none => e
def backN (o : Option Nat) (N : DN) : DN := ⟨fun e => N.nx (clrO o e), fun d e => N.rt d e, fun e => N.bk (clrO o e), fun e => N.ct (clrO o e), fun _ _ => False⟩
abbrev HdD := List (Str × Option Nat × (Ghost → SF))
def hand : HdD → DN → DX → En → Prop
  | [], N, x, e => N.ex x e
  | (h, o, su) :: r, N, x, e => if exb h x.c = true then ∀ a dd, (match o with
      | some i => i < e.sl.length ∧ su (a, dd, x.c) (backN o N) (setS e i (.exn a dd x.c x.fs))
      | none => su (a, dd, x.c) (backN o N) e) else hand r N x e
def sTry (cs : List Str) (b : SF) (hds : HdD) : SF := fun N env => b { N with ex := fun x e => x.c ∈ cs ∧ hand hds N x e } env
/-- the clauses -/
inductive DHs (X : Cx) (cs : List Str) : List ExceptHandler → HdD → Prop
  | nil : DHs X cs [] []
  | cons {h : Str} {o : Option (Nat × Str)} {su : Ghost → SF} {b₀ : Stmt} {ss : List Stmt} {np ps : Pos} {hds : List ExceptHandler} {l : HdD} (hg : Gl X h) (hdb : (h == ("__debug__" : Str)) = false) (hm : h ∈ cs) (ho : ∀ p, o = some p → X.N[p.1]? = some p.2 ∧ X.env.kindOf p.2 = some .local)
      (hsu : ∀ (a dd C : Addr) (c : Str) (oe : Obj) (pn : List (Addr × Obj)), c ∈ cs → X.mg c = some (.ref C) → Zc (.ref C) (some dd) oe → (∃ vs, oe.data = .fields vs) → DB (X.suite a ((a, oe) :: pn)) WN (b₀ :: ss) (su (a, dd, c))) (r : DHs X cs hds l) :
      DHs X cs (.ExceptHandler (some (.Name h np)) (o.map (·.2)) (b₀ :: ss) ps :: hds) ((h, o.map (·.1), su) :: l)
/-- what a block's reading is worth -/
def KB (X : Cx) (W : WX) (f : SF) (t : TS) : Prop := ∀ (σ : L2.St) (H : Hp) (env : En) (F : Hp) (R : Rs) (N : DN) (D' : Ends), StA (tx X) F H σ env [] R → f N env → EnK X F R N D' → ExK X W F R N.ex → t D' σ H
section
variable {X : Cx} {W : WX} {body : List Stmt} {h₀ : ExceptHandler} {hds : List ExceptHandler} {pos : Pos} {b : SF} {l : HdD} {cs fl : List Str}
theorem outO_st {T : Tx} {F H : Hp} {σ : L2.St} {e : En} {R : Rs} {o : Option (Nat × Str)} (s : StA T F H σ e [] R) : StA T F H (outO o σ) (clrO (o.map (·.1)) e) [] R := by
  cases o with
  | none => exact s
  | some p => exact StA.wiped s [p.1]
theorem handK {N : DN} {D' : Ends} {F0 : Hp} {R : Rs} (hk : EnK X F0 R N D') (hx : ExK X W F0 R N.ex) (E : Exs X.K X.mg cs fl) {hs : List ExceptHandler} {l : HdD} (h : DHs X cs hs l) : ∃ ll : List (Value × Option (Nat × Str) × HdT), HdsX X hs ll ∧
    ∀ (cls : Value) (d : Option Addr) (x : DX) (σ : L2.St) (e : En) (H F : Hp), Same F0 F → StA (tx X) F H σ e [] R → RX (tx X) F cls d x → x.c ∈ cs → hand l N x e → wTry X.K W D' ll cls d σ H := by
  induction h with
  | nil => exact ⟨[], .nil, fun cls d x σ e H F sF st rx _ q => hx cls d x σ e H F sF st rx q⟩
  | @cons h o su b₀ ss np ps hds l hg hdb hm ho hsu r ih =>
    obtain ⟨ll, hl, hw⟩ := ih
    obtain ⟨Ch, mh, _⟩ := E.cl h hm
    let ts : HdT := fun a cls d D σ H => ∃ (C dd : Addr) (c : Str) (hc : c ∈ cs) (hmc : X.mg c = some (.ref C)), cls = .ref C ∧ d = some dd ∧ ∀ (oe : Obj) (pn : List (Addr × Obj)) (hz : Zc (.ref C) (some dd) oe) (hf : ∃ vs, oe.data = .fields vs), (hsu a dd C c oe pn hc hmc hz hf).ex.choose D σ H
    refine ⟨(.ref Ch, o, ts) :: ll, .cons ⟨hg, hdb, .inl mh⟩ ho (fun a oe cls d pn hz hf => ⟨fun pins s σ H D I q => ?_⟩) hl, fun cls d x σ e H F sF st rx hc q => ?_⟩
    · obtain ⟨C, dd, c, hc, hmc, rfl, rfl, q⟩ := q
      exact ((hsu a dd C c oe pn hc hmc hz hf).ex.choose_spec.1).run pins s σ H D I (q oe pn hz hf)
    · obtain ⟨C, dd, vs, hmc, rfl, rfl, hF, hn, hr⟩ := id rx
      refine ⟨exb h x.c, E.ma h hm x.c hc Ch C mh hmc, fun hb a ha => ?_, fun hb => ?_⟩
      · rw [hand, if_pos hb] at q
        have q := q a dd
        refine ⟨C, dd, x.c, hc, hmc, rfl, rfl, fun oe pn hz hf => ?_⟩
        have kt := (hsu a dd C x.c oe pn hc hmc hz hf).ex.choose_spec.2
        have ek : EnK (X.suite a ((a, oe) :: pn)) F R (backN (o.map (·.1)) N) (backO o D') := by
          have hk' := hk.mono sF
          exact ⟨fun σ e H F' s' st' q' => hk'.nx _ _ _ F' s' (outO_st st') q', fun v d σ e H F' s' st' q' => hk'.rt v d σ e H F' s' st' q',
            fun σ e H F' s' st' q' => hk'.bk _ _ _ F' s' (outO_st st') q', fun σ e H F' s' st' q' => hk'.ct _ _ _ F' s' (outO_st st') q'⟩
        cases o with
        | none => exact kt σ H e F R _ _ st q ek fun _ _ _ _ _ _ _ _ _ _ h => h.elim
        | some p =>
          have rr : RO (tx X) F H (.ref a) (.exn a dd x.c x.fs) [] := .exn hmc hF hn (hr.free rfl)
          exact kt (σ.set p.1 (some (.ref a))) H (setS e p.1 (.exn a dd x.c x.fs)) F R _ _ (StA.put (i := p.1) (st.push rr) q.1) q.2 ek fun _ _ _ _ _ _ _ _ _ _ h => h.elim
      · rw [hand, if_neg (by rw [hb]; exact Bool.false_ne_true)] at q
        exact hw _ _ x σ e H F sF st rx hc q
theorem ds_try (hs : X.stack = X.env :: X.outer) (hf : X.env.frame = some X.env.locals) (hN : X.N.Nodup) (tk : Takes X W) (E : Exs X.K X.mg cs fl)
    (hb : ∀ (W' : WX) (pn : List (Addr × Obj)) (xe : Value → Shared → Prop), Takes (X.tr pn xe) W' → PassesOwn (model X.prog X.w) X.A X.env xe → DB (X.tr pn xe) W' body b) (hh : DHs X cs (h₀ :: hds) l) : DS X W (.Try body (h₀ :: hds) [] [] pos) (sTry cs b l) := by
  let tb : WX → TS := fun W' D σ H => ∀ (pn : List (Addr × Obj)) (xe : Value → Shared → Prop) (h1 : Takes (X.tr pn xe) W') (h2 : PassesOwn (model X.prog X.w) X.A X.env xe), (hb W' pn xe h1 h2).ex.choose D σ H
  have pb : ∀ (W' : WX) (pn : List (Addr × Obj)) (xe : Value → Shared → Prop), Takes (X.tr pn xe) W' → PassesOwn (model X.prog X.w) X.A X.env xe → PSs (X.tr pn xe) body (tb W') := fun W' pn xe h1 h2 =>
    ⟨fun pins s σ H D I q => ((hb W' pn xe h1 h2).ex.choose_spec.1).run pins s σ H D I (q pn xe h1 h2)⟩
  refine ⟨fun D σ H => ∃ ll, HdsX X (h₀ :: hds) ll ∧ tb (wTry X.K W D ll) D σ H, ⟨fun pins s σ H D I q => ?_⟩, fun σ H env F R N D' s f z x => ?_⟩
  · obtain ⟨ll, hl, q⟩ := q
    exact (ps_tryX hs hf hN tk pb hl).run pins s σ H D I q
  · obtain ⟨ll, hl, hw⟩ := handK z x E hh
    refine ⟨ll, hl, fun pn xe h1 h2 => ?_⟩
    have kt := (hb (wTry X.K W D' ll) pn xe h1 h2).ex.choose_spec.2
    exact kt σ H env F R _ D' s f ⟨z.nx, z.rt, z.bk, z.ct⟩ fun cls dd x' σ' e' H' F' s' st' rx q => hw cls dd x' σ' e' H' F' s' st' rx q.1 q.2
end
/-! ### reading an attribute of the caught exception -/
def dXf (z : Ghost) (i : Nat) (f : Str) : DF := fun env Q _ => onS (getS env i) fun d => match d with
  | .exn a dd c fs => (a, dd, c) = z ∧ ∃ v, fs.lookup f = some v ∧ nown v = true ∧ Q v env
  | _ => False
theorem lookup_ros {T : Tx} {F H : Hp} {f : Str} : ∀ {vs : List (Str × V)} {fs : List (Str × D)} {A : List Addr} {d : D}, vs.map (·.1) = fs.map (·.1) → ROs T F H (vs.map (·.2)) (fs.map (·.2)) A → fs.lookup f = some d → ∃ v B, vs.lookup f = some v ∧ RO T F H v d B
  | [], [], _, _, _, _, h => by simp at h
  | [], _ :: _, _, _, e, _, _ => by simp at e
  | _ :: _, [], _, _, e, _, _ => by simp at e
  | (n, v) :: vs, (m, x) :: fs, A, d, e, r, h => by
    simp only [List.map_cons, List.cons.injEq] at e
    obtain ⟨rfl, e⟩ := e
    cases r with
    | cons r1 r2 =>
      rw [List.lookup_cons] at h ⊢
      cases q : f == n with
      | true =>
        rw [q] at h
        cases h
        exact ⟨v, _, rfl, r1⟩
      | false =>
        rw [q] at h
        exact lookup_ros (vs := vs) (fs := fs) e r2 h
theorem de_xf {X : Cx} {W : WX} {cs fl : List Str} {a dd C : Addr} {c f x : Str} {oe : Obj} {pn : List (Addr × Obj)} {i : Nat} {p pos : Pos} (E : Exs X.K X.mg cs fl) (hc : c ∈ cs) (hm : X.mg c = some (.ref C)) (hf : f ∈ fl) (hz : Zc (.ref C) (some dd) oe) (ho : ∃ vs, oe.data = .fields vs)
    (hN : X.N[i]? = some x := by rfl) (hv : Vis X.env.scope x := by first | exact Or.inl rfl | exact Or.inr (Or.inl rfl) | exact Or.inr (Or.inr rfl)) (hd : (x == ("__debug__" : Str)) = false := by decide) (hcd : (x == ("__classdict__" : Str)) = false := by decide)
    (hb : attributeBase (.Name x p) f X.env (eval (.Name x p) X.env) = eval (.Name x p) X.env := by rfl) : DE (X.suite a ((a, oe) :: pn)) W (.Attribute (.Name x p) f pos) (dXf (a, dd, c) i f) := by
  obtain ⟨C', hm', T, no⟩ := E.cl c hc
  rw [hm] at hm'
  cases hm'
  refine ⟨_, pe_xf T (no f hf) hz ho (pe_var (X := X.suite a ((a, oe) :: pn)) (i := i) hN hv hd hcd) hb, fun σ H env F R Q E' Q' s h q _ => ?_⟩
  obtain ⟨d, e, h⟩ := onS_some h
  obtain ⟨v, e1, s1⟩ := s.take (getS_some e)
  obtain ⟨A, r⟩ := s1.abs.head
  cases d with
  | exn a' dd' c' fs =>
    obtain ⟨ez, w, hl, hn, hq⟩ := h
    cases ez
    cases r with
    | exn hc' hF hk hr =>
      obtain ⟨v, B, lv, rv⟩ := lookup_ros hk hr hl
      have eB := rv.none_own hn
      subst eB
      exact ⟨_, e1, rfl, rfl, dd, _, v, rfl, s.same _ _ hF, lv, q v w env H F (Same.refl _) (s.push rv) hq⟩
  | _ => exact h.elim
end Mf
set_option Elab.async false
set_option linter.all false
set_option maxHeartbeats 1000000
/-! What changes an owned thing: methods, stores. -/
namespace Mf
open PySem PySem.Spec PyProof.Rows L2

section
variable {T : Tx} {F H F' H' : Hp} {L : List Addr} {rs : Rs} {x : V}
theorem Abs.ownL {ds : List D} (h : Abs T F H L ((x, .lst .own ds) :: rs)) : ∃ a vs, x = .ref a ∧ H a = some (.lst vs) ∧ vs.length = ds.length ∧ Abs T F H (a :: L) (vs.zip ds ++ rs) := by
  obtain ⟨A, r⟩ := h.head
  cases r with
  | lstF m _ _ => exact m.elim
  | @lstO a vs _ A1 ha r =>
    obtain ⟨vs', e1, e2, h'⟩ := h.openL
    exact ⟨a, vs', rfl, e1, e2, h'⟩
theorem Abs.ownK {ds : List (Key × D)} (h : Abs T F H L ((x, .dct .own ds) :: rs)) : ∃ a kvs, x = .ref a ∧ H a = some (.dK kvs) ∧ kvs.map (·.1) = ds.map (·.1) ∧ Abs T F H (a :: L) ((kvs.map (·.2)).zip (ds.map (·.2)) ++ rs) := by
  obtain ⟨A, r⟩ := h.head
  cases r with
  | dctF m _ _ _ => exact m.elim
  | @dctO a kvs _ A1 ha k r =>
    obtain ⟨vs', e1, e2, h'⟩ := h.openK
    exact ⟨a, vs', rfl, e1, e2, h'⟩
theorem Abs.ownQ {ds : List (List Key × D)} (h : Abs T F H L ((x, .dtt .own ds) :: rs)) : ∃ a kvs, x = .ref a ∧ H a = some (.dT kvs) ∧ kvs.map (·.1) = ds.map (·.1) ∧ Abs T F H (a :: L) ((kvs.map (·.2)).zip (ds.map (·.2)) ++ rs) := by
  obtain ⟨A, r⟩ := h.head
  cases r with
  | dttF m _ _ _ => exact m.elim
  | @dttO a kvs _ A1 ha k r =>
    obtain ⟨vs', e1, e2, h'⟩ := h.openQ
    exact ⟨a, vs', rfl, e1, e2, h'⟩
/-- the object in hand is written: the reserved ones stay -/
theorem res_keep {a b : Addr} {o : HO} (h : Abs T F H (a :: L) rs) (m : b ∈ L) : upd H a o b = H b := by
  obtain ⟨A, _, nd, _⟩ := h.own
  refine upd_ne fun e => ?_
  subst e
  rw [List.cons_append] at nd
  exact (List.nodup_cons.mp nd).1 (List.mem_append_left _ m)
end

/-! ### methods that change their receiver -/
abbrev MF := D → List D → (D → D → Prop) → Prop
def tyD (T : String) : D → Bool
  | .lst .own _ => T == "list"
  | .dct .own _ => T == "dict"
  | .dtt .own _ => T == "dict"
  | _ => false
structure MutD (X : Cx) (id : String) (m : MF) : Prop where
  ex : ∃ r, MtR X id r ∧ ∀ F H x dx vs ds L R Q Q', vs.length = ds.length → Abs (tx X) F H L ((x, dx) :: (vs.zip ds ++ R)) → m dx ds Q →
    (∀ z dz dx' F' H', Same F F' → (∀ b ∈ L, H' b = H b) → Abs (tx X) F' H' L ((z, dz) :: (x, dx') :: R) → Q dz dx' → Q' z H') → r x vs H Q'
theorem tyD_ok {X : Cx} {T : String} {F H : Hp} {x : V} {d : D} {A : List Addr} (hS : Same F H) (h : tyD T d = true) (r : RO (tx X) F H x d A) : tyV X.K T x H := by
  cases r with
  | lstO e r => exact .inl ⟨by simpa [tyD] using h, _, SqL_of e⟩
  | @lstF a vs ds m f e r =>
    cases m with
    | own => exact f.elim
    | _ => simp [tyD] at h
  | dctO e k r => exact .inr (.inr (.inl ⟨by simpa [tyD] using h, .inl ⟨_, e⟩⟩))
  | @dctF a vs ds m f e k r =>
    cases m with
    | own => exact f.elim
    | _ => simp [tyD] at h
  | dttO e k r => exact .inr (.inr (.inl ⟨by simpa [tyD] using h, .inr ⟨_, e⟩⟩))
  | @dttF a vs ds m f e k r =>
    cases m with
    | own => exact f.elim
    | _ => simp [tyD] at h
  | _ => simp [tyD] at h
section
variable {X : Cx} {W : WX}
def mAppend : MF := fun d as Q => match d, as with
  | .lst .own ds, [y] => ds.length < sizeLine ∧ Q .non (.lst .own (ds ++ [y]))
  | _, _ => False
theorem mu_append : MutD X "list.append" mAppend := by
  refine ⟨_, mt_append, fun F H x dx vs ds L R Q Q' l h hm q => ?_⟩
  match dx, ds, hm with
  | .lst .own xs, [y], hm =>
    obtain ⟨v, rfl⟩ := List.length_eq_one_iff.mp l
    obtain ⟨a, ws, rfl, ha, lw, h1⟩ := h.ownL
    refine ⟨a, ws, v, rfl, rfl, ha, by rw [lw]; exact hm.1, ?_⟩
    refine q .non .non _ F _ (Same.refl _) (fun b m => res_keep h1 m) (Abs.push ?_ .non) hm.2
    refine Abs.closeL (vs := ws ++ [v]) (ds := xs ++ [y]) (h1.perm ?_).write upd_same (by simp [lw])
    rw [List.zip_append lw, List.append_assoc]
def mClear : MF := fun d as Q => match d, as with
  | .lst .own _, [] => Q .non (.lst .own [])
  | _, _ => False
theorem mu_clear : MutD X "list.clear" mClear := by
  refine ⟨_, mt_clear, fun F H x dx vs ds L R Q Q' l h hm q => ?_⟩
  match dx, ds, hm with
  | .lst .own xs, [], hm =>
    have ev : vs = [] := List.eq_nil_of_length_eq_zero l
    subst ev
    obtain ⟨a, ws, rfl, ha, lw, h1⟩ := h.ownL
    refine ⟨a, ws, rfl, rfl, ha, ?_⟩
    refine q .non .non _ F _ (Same.refl _) (fun b m => res_keep h1 m) (Abs.push ?_ .non) hm
    exact Abs.closeL (vs := []) (ds := []) h1.drop.write upd_same rfl
theorem zip_at {ws : List V} {xs : List D} (l : ws.length = xs.length) {k : Nat} {v : V} {d : D} (h1 : ws[k]? = some v) (h2 : xs[k]? = some d) : (ws.zip xs).Perm ((v, d) :: (ws.eraseIdx k).zip (xs.eraseIdx k)) := by
  induction k generalizing ws xs with
  | zero =>
    cases ws with
    | nil => simp at h1
    | cons w ws =>
      cases xs with
      | nil => simp at h2
      | cons x xs =>
        simp at h1 h2
        subst h1 h2
        exact .refl _
  | succ k ih =>
    cases ws with
    | nil => simp at h1
    | cons w ws =>
      cases xs with
      | nil => simp at h2
      | cons x xs =>
        have := ih (by simpa using l) (by simpa using h1) (by simpa using h2)
        exact (this.cons (w, x)).trans (.swap ..)
theorem len_at {ws : List V} {xs : List D} (l : ws.length = xs.length) {k : Nat} {d : D} (h2 : xs[k]? = some d) : ∃ v, ws[k]? = some v := by
  have : k < xs.length := (List.getElem?_eq_some_iff.mp h2).1
  exact ⟨_, List.getElem?_eq_getElem (by omega)⟩
theorem erase_len {ws : List V} {xs : List D} (l : ws.length = xs.length) (k : Nat) : (ws.eraseIdx k).length = (xs.eraseIdx k).length := by
  rw [List.length_eraseIdx, List.length_eraseIdx, l]
def mPop : MF := fun d as Q => match d, as with
  | .lst .own ds, [] => onO ds[ds.length - 1]? fun y => Q y (.lst .own ds.dropLast)
  | .lst .own ds, [.int i] => -(2 ^ 63) ≤ i ∧ i < 2 ^ 63 ∧ onO (ixN ds.length i) fun k => onO ds[k]? fun y => Q y (.lst .own (ds.eraseIdx k))
  | _, _ => False
theorem mu_pop : MutD X "list.pop" mPop := by
  refine ⟨_, MtR.or mt_pop mt_popAt, fun F H x dx vs ds L R Q Q' l h hm q => ?_⟩
  match dx, ds, hm with
  | .lst .own xs, [], hm =>
    have ev : vs = [] := List.eq_nil_of_length_eq_zero l
    subst ev
    obtain ⟨y, ey, hm⟩ := onO_some hm
    obtain ⟨a, ws, rfl, ha, lw, h1⟩ := h.ownL
    obtain ⟨v, ev⟩ := len_at lw ey
    refine .inl ⟨a, ws, v, rfl, rfl, ha, by rw [lw]; exact ev, ?_⟩
    have hp := zip_at lw ev ey
    have he : ∀ {α : Type} (l : List α), l.eraseIdx (l.length - 1) = l.dropLast := fun l => by
      cases l with
      | nil => rfl
      | cons y r => exact List.eraseIdx_eq_dropLast (by simp)
    refine q v y _ F _ (Same.refl _) (fun b m => res_keep h1 m) ?_ hm
    have h2 : Abs (tx X) F (upd H a (.lst ws.dropLast)) (a :: L) (ws.dropLast.zip xs.dropLast ++ (v, y) :: R) := Abs.write (h1.perm (by
      refine (hp.append_right _).trans ?_
      have e1 : ws.eraseIdx (xs.length - 1) = ws.dropLast := by rw [← lw]; exact he ws
      rw [e1, he xs]
      exact List.perm_middle.symm))
    exact (Abs.closeL h2 upd_same (by simp [lw])).perm (.swap ..)
  | .lst .own xs, [.int i], hm =>
    obtain ⟨w, rfl⟩ := List.length_eq_one_iff.mp l
    obtain ⟨b1, b2, hm⟩ := hm
    obtain ⟨k, ek, hm⟩ := onO_some hm
    obtain ⟨y, ey, hm⟩ := onO_some hm
    have rw' := (h.tail).head0 (show nown (D.int i) = true from rfl)
    obtain ⟨rfl, _⟩ := rw'.int_inv
    obtain ⟨a, ws, rfl, ha, lw, h1⟩ := h.ownL
    have h1 : Abs (tx X) F H (a :: L) (ws.zip xs ++ R) := (h1.perm List.perm_middle).tail
    obtain ⟨v, ev⟩ := len_at lw ey
    refine .inr ⟨a, ws, i, k, v, rfl, rfl, ha, b1, b2, by rw [lw]; exact (ixN_seq ek).1, ev, ?_⟩
    refine q v y _ F _ (Same.refl _) (fun b m => res_keep h1 m) ?_ hm
    have h2 : Abs (tx X) F (upd H a (.lst (ws.eraseIdx k))) (a :: L) ((ws.eraseIdx k).zip (xs.eraseIdx k) ++ (v, y) :: R) := Abs.write (h1.perm (((zip_at lw ev ey).append_right _).trans List.perm_middle.symm))
    exact (Abs.closeL h2 upd_same (erase_len lw k)).perm (.swap ..)
def mExtend : MF := fun d as Q => match d, as with
  | .lst .own ds, [.lst m es] => nowns es = true ∧ ds.length + es.length ≤ sizeLine ∧ Q .non (.lst .own (ds ++ es))
  | _, _ => False
theorem Abs.pushAll {T : Tx} {F H : Hp} {L : List Addr} {rs : Rs} : ∀ {vs : List V} {ds : List D}, ROs T F H vs ds [] → Abs T F H L rs → Abs T F H L (vs.zip ds ++ rs) := by
  have key : ∀ (ds : List D) (vs : List V) (A : List Addr), ROs T F H vs ds A → A = [] → Abs T F H L rs → Abs T F H L (vs.zip ds ++ rs) := by
    intro ds
    induction ds with
    | nil => intro vs A r _ h; cases r; exact h
    | cons d ds ih =>
      intro vs A r e h
      cases r with
      | cons r1 r2 =>
        obtain ⟨rfl, rfl⟩ := app_nil e.symm
        exact (ih _ _ r2 rfl h).push r1
  intro vs ds r h
  exact key ds vs [] r rfl h
theorem mu_extend : MutD X "list.extend" mExtend := by
  refine ⟨_, mt_extend, fun F H x dx vs ds L R Q Q' l h hm q => ?_⟩
  match dx, ds, hm with
  | .lst .own xs, [.lst m es], hm =>
    obtain ⟨w, rfl⟩ := List.length_eq_one_iff.mp l
    obtain ⟨n1, n2, hm⟩ := hm
    obtain ⟨A, rw'⟩ := (h.tail).head
    obtain ⟨b, us, rfl, eb, ru, lu⟩ := rw'.lst_items h.same n1
    obtain ⟨a, ws, rfl, ha, lw, h1⟩ := h.ownL
    have h1 : Abs (tx X) F H (a :: L) (ws.zip xs ++ R) := (h1.perm List.perm_middle).tail
    refine ⟨a, b, ws, us, rfl, rfl, ha, eb, by omega, ?_⟩
    refine q .non .non _ F _ (Same.refl _) (fun b m => res_keep h1 m) (Abs.push ?_ .non) hm
    refine Abs.closeL (vs := ws ++ us) (ds := xs ++ es) (Abs.write ((Abs.pushAll ru h1).perm ?_)) upd_same (by simp [lw, lu])
    rw [List.zip_append lw, ← List.append_assoc]
    exact List.perm_append_comm.append_right _

/-! ### places -/
abbrev QF := En → (D → (D → En) → Prop) → Prop
/-- the thing at a place may be taken out, changed, put back -/
def Opn (T : Tx) (F1 H1 : Hp) (σ : L2.St) (env : En) (R : Rs) (x : V) (d : D) (put : D → En) : Prop := ∀ F2 H2, Gr F1 H1 F2 H2 → ∃ eO L R0, StA T F2 H2 σ eO L ((x, d) :: (R0 ++ R)) ∧
  ∀ F3 H3 d' R', Same F2 F3 → (∀ b ∈ L, H3 b = H2 b) → StA T F3 H3 σ eO L ((x, d') :: (R0 ++ R')) → StA T F3 H3 σ (put d') [] R'
structure DQ (X : Cx) (o : Expr) (q : QF) : Prop where
  ex : ∃ t : TE, PE X o t ∧ ∀ (σ : L2.St) (H : Hp) (env : En) (F : Hp) (R : Rs) (Q : D → (D → En) → Prop) (Q' : VK), StA (tx X) F H σ env [] R → q env Q →
    (∀ x d put F1 H1, Gr F H F1 H1 → Opn (tx X) F1 H1 σ env R x d put → Q d put → Q' x H1) → t σ H Q'
def qVar (i : Nat) : QF := fun env Q => onS (getS env i) fun d => Q d fun d' => setS env i d'
theorem dq_var {i : Nat} {x : Str} {pos : Pos} (hN : X.N[i]? = some x := by rfl) (hv : Vis X.env.scope x := by first | exact Or.inl rfl | exact Or.inr (Or.inl rfl) | exact Or.inr (Or.inr rfl))
    (hd : (x == ("__debug__" : Str)) = false := by decide) (hcd : (x == ("__classdict__" : Str)) = false := by decide) : DQ X (.Name x pos) (qVar i) := by
  refine ⟨tVar i, pe_var hN hv hd hcd, fun σ H env F R Q Q' s f q => ?_⟩
  obtain ⟨d, e, z⟩ := onS_some f
  have hi := getS_some e
  have hl : i < env.sl.length := (List.getElem?_eq_some_iff.mp hi).1
  obtain ⟨v, e1, _⟩ := s.take hi
  refine ⟨v, e1, q v d _ F H (Gr.refl s.same) (fun F2 H2 g => ?_) z⟩
  obtain ⟨v', e2, s2⟩ := (s.gr g).take hi
  rw [e1] at e2
  cases e2
  exact ⟨clrS env i, [], [], s2, fun F3 H3 d' R' _ _ st => StA.back (i := i) (e := env) st hl e1⟩
def putSt : Sto → Addr → D → Sto
  | [], _, _ => []
  | (b, x) :: r, a, d => if b = a then (b, d) :: r else (b, x) :: putSt r a d
def getSt : Sto → Addr → Option D
  | [], _ => none
  | (b, x) :: r, a => if b = a then some x else getSt r a
def dropSt : Sto → Addr → Sto
  | [], _ => []
  | (b, x) :: r, a => if b = a then r else (b, x) :: dropSt r a
theorem stR_take {st : Sto} {a : Addr} {d : D} (h : getSt st a = some d) : (stR st).Perm ((.ref a, d) :: stR (dropSt st a)) := by
  induction st with
  | nil => simp [getSt] at h
  | cons p r ih =>
    obtain ⟨b, x⟩ := p
    rw [getSt] at h
    rw [dropSt]
    split at h
    · rename_i e
      subst e
      cases h
      rw [if_pos rfl]
      exact .refl _
    · rename_i e
      rw [if_neg e]
      exact ((ih h).cons _).trans (.swap ..)
theorem stR_put {st : Sto} {a : Addr} {d d' : D} (h : getSt st a = some d) : (stR (putSt st a d')).Perm ((.ref a, d') :: stR (dropSt st a)) := by
  induction st with
  | nil => simp [getSt] at h
  | cons p r ih =>
    obtain ⟨b, x⟩ := p
    rw [getSt] at h
    rw [dropSt, putSt]
    split at h
    · rename_i e
      subst e
      rw [if_pos rfl, if_pos rfl]
      exact .refl _
    · rename_i e
      rw [if_neg e, if_neg e]
      exact ((ih h).cons _).trans (.swap ..)
def setSt (env : En) (a : Addr) (d : D) : En := { env with st := putSt env.st a d }
/-- the thing in the store that a slot points at -/
def qPtr (i : Nat) : QF := fun env Q => onS (getS env i) fun d => match d with
  | .ptr a => onO (getSt env.st a) fun d => Q d fun d' => setSt env a d'
  | _ => False
theorem StA.takeSt {T : Tx} {F H : Hp} {σ : L2.St} {e : En} {L : List Addr} {R : Rs} {a : Addr} {d : D} (s : StA T F H σ e L R) (h : getSt e.st a = some d) : StA T F H σ { e with st := dropSt e.st a } L ((.ref a, d) :: R) := by
  obtain ⟨rs, sl, ab⟩ := s
  refine ⟨rs, sl, ab.perm (List.Perm.append_left _ ?_)⟩
  refine ((stR_take h).append_right R).trans ?_
  exact List.perm_middle.symm
theorem StA.putSt {T : Tx} {F H : Hp} {σ : L2.St} {e : En} {L : List Addr} {R : Rs} {a : Addr} {d d' : D} (s : StA T F H σ { e with st := dropSt e.st a } L ((.ref a, d') :: R)) (h : getSt e.st a = some d) : StA T F H σ { e with st := Mf.putSt e.st a d' } L R := by
  obtain ⟨rs, sl, ab⟩ := s
  refine ⟨rs, sl, ab.perm (List.Perm.append_left _ ?_)⟩
  refine List.Perm.trans ?_ ((stR_put (d' := d') h).append_right R).symm
  exact List.perm_middle
theorem dq_ptr {i : Nat} {x : Str} {pos : Pos} (hN : X.N[i]? = some x := by rfl) (hv : Vis X.env.scope x := by first | exact Or.inl rfl | exact Or.inr (Or.inl rfl) | exact Or.inr (Or.inr rfl))
    (hd : (x == ("__debug__" : Str)) = false := by decide) (hcd : (x == ("__classdict__" : Str)) = false := by decide) : DQ X (.Name x pos) (qPtr i) := by
  refine ⟨tVar i, pe_var hN hv hd hcd, fun σ H env F R Q Q' s f q => ?_⟩
  obtain ⟨d, e, z⟩ := onS_some f
  have hi := getS_some e
  obtain ⟨v, e1, s1⟩ := s.take hi
  obtain ⟨A, r⟩ := s1.abs.head
  cases d with
  | ptr a =>
    cases r
    obtain ⟨d, ed, z⟩ := onO_some z
    refine ⟨_, e1, q _ d _ F H (Gr.refl s.same) (fun F2 H2 g => ?_) z⟩
    exact ⟨{ env with st := dropSt env.st a }, [], [], (s.gr g).takeSt ed, fun F3 H3 d' R' _ _ st => StA.putSt st ed⟩
  | _ => exact z.elim
/-- an item of an owned thing, and how it is put -/
def putD {κ : Type} [DecidableEq κ] (ds : List (κ × D)) (k : κ) (d : D) : List (κ × D) := if (ds.any fun p => decide (p.1 = k)) = true then ds.map (fun p => if p.1 = k then (p.1, d) else p) else ds ++ [(k, d)]
def itD (x y : D) : Option (D × (D → D)) := match x, y with
  | .lst .own ds, .int i => (ixN ds.length i).bind fun j => ds[j]?.map fun d => (d, fun d' => .lst .own (ds.set j d'))
  | _, _ => none
def qIx (q : QF) (g : PF) : QF := fun env Q => q env fun d put => g env fun y => onO (itD d y) fun p => Q p.1 fun d' => put (p.2 d')
theorem zip_set {ws : List V} {xs : List D} (l : ws.length = xs.length) {k : Nat} {v : V} {d d' : D} (h1 : ws[k]? = some v) (h2 : xs[k]? = some d) : (ws.zip (xs.set k d')).Perm ((v, d') :: (ws.eraseIdx k).zip (xs.eraseIdx k)) := by
  have hk : k < xs.length := (List.getElem?_eq_some_iff.mp h2).1
  have := zip_at (ws := ws) (xs := xs.set k d') (by simpa using l) (k := k) (v := v) (d := d') h1 (by rw [List.getElem?_set_self hk])
  rwa [List.eraseIdx_set_eq] at this
theorem dq_ix {o idx : Expr} {q : QF} {g : PF} {pos : Pos} (hq : DQ X o q) (hi : DP X idx g) (hs : PlainIx idx := by intro _ _; rfl) : DQ X (.Subscript o idx pos) (qIx q g) := by
  obtain ⟨to, po, ko⟩ := hq.ex
  obtain ⟨ti, pi', ki⟩ := hi.ex
  refine ⟨_, pe_ix ix_seq po pi' hs, fun σ H env F R Q Q' s f k => ?_⟩
  refine ko σ H env F R _ _ s f fun x d put F1 H1 g1 op f1 => ?_
  refine ki σ H1 env F1 R _ _ (s.gr g1) f1 fun y dy B H2 F2 g2 rb f2 => ?_
  obtain ⟨p, ep, f2⟩ := onO_some f2
  match d, dy, ep with
  | .lst .own ds, .int i, ep =>
    obtain ⟨rfl, rfl⟩ := rb.int_inv
    have ep' : ((ixN ds.length i).bind fun j => ds[j]?.map fun d => ((d, fun d' => D.lst .own (ds.set j d')) : D × (D → D))) = some p := ep
    obtain ⟨j, ej, e2⟩ := Option.bind_eq_some_iff.mp ep'
    obtain ⟨dj, edj, rfl⟩ := Option.map_eq_some_iff.mp e2
    obtain ⟨eO, L, R0, st, cl⟩ := op F2 H2 g2
    obtain ⟨z, ⟨rfl, ha, lw⟩, st1⟩ := StA.liftE (P := fun z : Addr × List V => x = .ref z.1 ∧ H2 z.1 = some (.lst z.2) ∧ z.2.length = ds.length) (FF := fun _ => F2) (HH := fun _ => H2) (LL := fun z => z.1 :: L) (G := fun z => z.2.zip ds ++ (R0 ++ R)) st fun Z h => by
      obtain ⟨a, ws, e1, e2, e3, h'⟩ := Abs.ownL h
      exact ⟨(a, ws), ⟨e1, e2, e3⟩, by rw [List.append_assoc]; exact h'⟩
    obtain ⟨a, ws⟩ := z
    obtain ⟨v, ev⟩ := len_at lw edj
    refine .inl ⟨a, ws, i, v, rfl, rfl, SqL_of ha, ?_, ?_⟩
    · unfold L2.atI
      rw [lw, ej]
      exact ev
    · refine k v dj _ F2 H2 (g1.trans g2) (fun F3 H3 g3 => ?_) f2
      obtain ⟨eO3, L3, R03, st3, cl3⟩ := op F3 H3 (g2.trans g3)
      obtain ⟨z, ⟨ez, ha3, lw3⟩, st4⟩ := StA.liftE (P := fun z : Addr × List V => V.ref a = .ref z.1 ∧ H3 z.1 = some (.lst z.2) ∧ z.2.length = ds.length) (FF := fun _ => F3) (HH := fun _ => H3) (LL := fun z => z.1 :: L3) (G := fun z => z.2.zip ds ++ (R03 ++ R)) st3 fun Z h => by
        obtain ⟨a, ws, e1, e2, e3, h'⟩ := Abs.ownL h
        exact ⟨(a, ws), ⟨e1, e2, e3⟩, by rw [List.append_assoc]; exact h'⟩
      obtain ⟨a3, ws3⟩ := z
      cases ez
      have ew : ws3 = ws := by
        have := g3.h _ _ ha
        rw [ha3] at this
        injection this with this
        injection this
      subst ew
      have st5 := st4.perm (R' := (v, dj) :: ((ws3.eraseIdx j).zip (ds.eraseIdx j) ++ R03 ++ R)) (by
        refine ((zip_at lw ev edj).append_right _).trans ?_
        simp)
      refine ⟨eO3, a3 :: L3, (ws3.eraseIdx j).zip (ds.eraseIdx j) ++ R03, st5, fun F4 H4 d' R' s4 keep st6 => ?_⟩
      · refine cl3 F4 H4 (.lst .own (ds.set j d')) R' s4 (fun b m => keep b (List.mem_cons_of_mem _ m)) ?_
        refine st6.lift fun Z h => ?_
        have ha4 : H4 a3 = some (.lst ws3) := by rw [keep a3 (by simp)]; exact ha3
        refine Abs.closeL (vs := ws3) (ds := ds.set j d') (h.perm ?_) ha4 (by simpa using lw)
        have hz := zip_set (d' := d') lw ev edj
        have e1 : ((v, d') :: ((ws3.eraseIdx j).zip (ds.eraseIdx j) ++ R03 ++ R')) ++ Z = ((v, d') :: (ws3.eraseIdx j).zip (ds.eraseIdx j)) ++ (R03 ++ R' ++ Z) := by simp
        rw [e1]
        exact hz.symm.append_right _

/-- what the store holds under a slot's pointer, looked at -/
def pPtr (i : Nat) : PF := fun env Q => onS (getS env i) fun d => match d with
  | .ptr a => onO (getSt env.st a) Q
  | _ => False
theorem dp_ptr {i : Nat} {x : Str} {pos : Pos} (hN : X.N[i]? = some x := by rfl) (hv : Vis X.env.scope x := by first | exact Or.inl rfl | exact Or.inr (Or.inl rfl) | exact Or.inr (Or.inr rfl))
    (hd : (x == ("__debug__" : Str)) = false := by decide) (hcd : (x == ("__classdict__" : Str)) = false := by decide) : DP X (.Name x pos) (pPtr i) := by
  refine ⟨tVar i, pe_var hN hv hd hcd, fun σ H env F R Q Q' s f q => ?_⟩
  obtain ⟨d, e, z⟩ := onS_some f
  obtain ⟨v, e1, s1⟩ := s.take (getS_some e)
  obtain ⟨A, r⟩ := s1.abs.head
  cases d with
  | ptr a =>
    cases r
    obtain ⟨d, ed, z⟩ := onO_some z
    obtain ⟨B, rb⟩ := (s.takeSt ed).abs.head
    exact ⟨_, e1, q _ d B H F (Gr.refl s.same) rb z⟩
  | _ => exact z.elim

/-! ### method calls -/
section
variable {T id : String} {m : MF} {name : Str} {o e : Expr} {es : List Expr} {q : QF} {gr : PAF} {fr : AF} {apos cpos : Pos} {i : Nat} {x : Str} {xp : Pos}
def dMth (T : String) (m : MF) (q : QF) (gr : PAF) : DF := fun env Q _ => q env fun d put => tyD T d = true ∧ gr env fun ds => nowns ds = true ∧ m d ds fun z d' => Q z (put d')
def dMth0 (T : String) (m : MF) (q : QF) : DF := fun env Q _ => q env fun d put => tyD T d = true ∧ m d [] fun z d' => Q z (put d')
def dMthE (T : String) (m : MF) (i : Nat) (fr : AF) : DF := fun env Q E => onS (getS env i) fun d => tyD T d = true ∧ fr (clrS env i) (fun ds e1 => m d ds fun z d' => Q z (setS e1 i d')) E
theorem de_mth (pa : PlainAttrs T) (slot : Slot T name id) (hty : typeOf (.builtin id) = pure (.type "method_descriptor")) (hm : MutD X id m) (hq : DQ X o q) (ha : DPA X (e :: es) gr)
    (hbase : attributeBase o name X.env (eval o X.env) = eval o X.env := by rfl)
    (hfew : ((backTo cpos (starEach (e :: es) X.env)).all (fun x => !x.1) && (backToKw cpos (keywordEach [] X.env)).all (fun x => x.1.isSome)
      && decide ((e :: es).length + ([] : List Keyword).length + (if ([] : List Keyword).isEmpty then 0 else 1) < 30)) = true := by rfl)
    (hline : (apos.endLine == cpos.line) = true := by rfl) (hs : starEach (e :: es) X.env = (false, eval e X.env) :: starEach es X.env := by rfl) (hplain : (backTo cpos (starEach es X.env)).any (·.1) = false := by rfl) :
    DE X W (.Call (.Attribute o name apos) (e :: es) [] cpos) (dMth T m q gr) := by
  obtain ⟨r, hr, km⟩ := hm.ex
  obtain ⟨to, po, ko⟩ := hq.ex
  obtain ⟨ta, pa', ka⟩ := ha.ex
  refine ⟨_, pe_bm pa slot hty hr po pa' hbase hfew hline hs hplain, fun σ H env F R Q E Q' s f k _ => ?_⟩
  refine ko σ H env F R _ _ s f fun x d put F1 H1 g1 op ⟨ty, f1⟩ => ?_
  obtain ⟨eO, L, R0, st, _⟩ := op F1 H1 (Gr.refl g1.s)
  obtain ⟨A, rx⟩ := st.abs.head
  refine ⟨tyD_ok st.same ty rx, ?_⟩
  refine ka σ H1 env F1 R _ _ (s.gr g1) f1 fun vs ds B H2 F2 g2 rs ⟨n, f2⟩ => ?_
  obtain ⟨eO, L, R0, st, cl⟩ := op F2 H2 g2
  have eB := rs.none_own n
  subst eB
  have l := rs.len
  have st2 : StA (tx X) F2 H2 σ eO L ((x, d) :: (vs.zip ds ++ (R0 ++ R))) := (st.lift (R' := vs.zip ds ++ ((x, d) :: (R0 ++ R))) fun Z h => by
    rw [List.append_assoc]
    exact Abs.pushAll rs h).perm List.perm_middle
  obtain ⟨rs', sl, ab⟩ := st2
  have pq : (rs' ++ (stR eO.st ++ ((x, d) :: (vs.zip ds ++ (R0 ++ R))))).Perm ((x, d) :: (vs.zip ds ++ (R0 ++ R ++ (rs' ++ stR eO.st)))) := by
    rw [← List.append_assoc]
    refine List.perm_middle.trans (List.Perm.cons _ ?_)
    refine List.perm_append_comm.trans ?_
    rw [List.append_assoc]
  refine km F2 H2 x d vs ds L _ _ Q' l (ab.perm pq) f2 fun z dz d' F3 H3 s3 keep ab3 qz => ?_
  refine k z dz (put d') H3 F3 ((g1.trans g2).f.trans s3) ?_ qz
  refine cl F3 H3 d' ((z, dz) :: R) s3 keep ⟨rs', sl, ab3.perm ?_⟩
  have q3 : ((z, dz) :: (x, d') :: (R0 ++ R ++ (rs' ++ stR eO.st))).Perm ((x, d') :: (R0 ++ (z, dz) :: R) ++ (rs' ++ stR eO.st)) := by
    refine (List.Perm.swap ..).trans (List.Perm.cons _ ?_)
    exact (List.perm_middle (l₁ := R0) (l₂ := R) (a := (z, dz))).symm.append_right (rs' ++ stR eO.st)
  refine q3.trans ?_
  refine List.perm_append_comm.trans ?_
  rw [List.append_assoc]
theorem de_mth0 (pa : PlainAttrs T) (slot : Slot T name id) (hty : typeOf (.builtin id) = pure (.type "method_descriptor")) (hm : MutD X id m) (hq : DQ X o q)
    (hbase : attributeBase o name X.env (eval o X.env) = eval o X.env := by rfl) (hline : (apos.endLine == cpos.line) = true := by rfl) : DE X W (.Call (.Attribute o name apos) [] [] cpos) (dMth0 T m q) := by
  obtain ⟨r, hr, km⟩ := hm.ex
  obtain ⟨to, po, ko⟩ := hq.ex
  refine ⟨_, pe_bm0 pa slot hty hr po hbase hline, fun σ H env F R Q E Q' s f k _ => ?_⟩
  refine ko σ H env F R _ _ s f fun x d put F2 H2 g2 op ⟨ty, f2⟩ => ?_
  obtain ⟨eO, L, R0, st, cl⟩ := op F2 H2 (Gr.refl g2.s)
  obtain ⟨A, rx⟩ := st.abs.head
  refine ⟨tyD_ok st.same ty rx, ?_⟩
  obtain ⟨rs', sl, ab⟩ := st
  have pq : (rs' ++ (stR eO.st ++ ((x, d) :: (R0 ++ R)))).Perm ((x, d) :: (([] : List V).zip ([] : List D) ++ (R0 ++ R ++ (rs' ++ stR eO.st)))) := by
    rw [← List.append_assoc]
    refine List.perm_middle.trans (List.Perm.cons _ ?_)
    exact List.perm_append_comm
  refine km F2 H2 x d [] [] L _ _ Q' rfl (ab.perm pq) f2 fun z dz d' F3 H3 s3 keep ab3 qz => ?_
  refine k z dz (put d') H3 F3 (g2.f.trans s3) ?_ qz
  refine cl F3 H3 d' ((z, dz) :: R) s3 keep ⟨rs', sl, ab3.perm ?_⟩
  have q3 : ((z, dz) :: (x, d') :: (R0 ++ R ++ (rs' ++ stR eO.st))).Perm ((x, d') :: (R0 ++ (z, dz) :: R) ++ (rs' ++ stR eO.st)) := by
    refine (List.Perm.swap ..).trans (List.Perm.cons _ ?_)
    exact (List.perm_middle (l₁ := R0) (l₂ := R) (a := (z, dz))).symm.append_right (rs' ++ stR eO.st)
  refine q3.trans ?_
  refine List.perm_append_comm.trans ?_
  rw [List.append_assoc]
theorem de_mthE (pa : PlainAttrs T) (slot : Slot T name id) (hty : typeOf (.builtin id) = pure (.type "method_descriptor")) (hm : MutD X id m) (ha : DA X W (e :: es) fr) (hN : X.N[i]? = some x := by rfl)
    (hv : Vis X.env.scope x := by first | exact Or.inl rfl | exact Or.inr (Or.inl rfl) | exact Or.inr (Or.inr rfl))
    (hd : (x == ("__debug__" : Str)) = false := by decide) (hcd : (x == ("__classdict__" : Str)) = false := by decide)
    (hbase : attributeBase (.Name x xp) name X.env (eval (.Name x xp) X.env) = eval (.Name x xp) X.env := by rfl)
    (hfew : ((backTo cpos (starEach (e :: es) X.env)).all (fun x => !x.1) && (backToKw cpos (keywordEach [] X.env)).all (fun x => x.1.isSome)
      && decide ((e :: es).length + ([] : List Keyword).length + (if ([] : List Keyword).isEmpty then 0 else 1) < 30)) = true := by rfl)
    (hline : (apos.endLine == cpos.line) = true := by rfl) (hs : starEach (e :: es) X.env = (false, eval e X.env) :: starEach es X.env := by rfl) (hplain : (backTo cpos (starEach es X.env)).any (·.1) = false := by rfl) :
    DE X W (.Call (.Attribute (.Name x xp) name apos) (e :: es) [] cpos) (dMthE T m i fr) := by
  obtain ⟨r, hr, km⟩ := hm.ex
  obtain ⟨ta, pa', ka⟩ := ha.ex
  refine ⟨_, pe_bm pa slot hty hr (pe_var hN hv hd hcd) pa' hbase hfew hline hs hplain, fun σ H env F R Q E Q' s f k xk => ?_⟩
  obtain ⟨d, e0, ty, f1⟩ := onS_some f
  obtain ⟨v, e1, s1⟩ := s.take (getS_some e0)
  obtain ⟨A, rx⟩ := s1.abs.head
  refine ⟨v, e1, tyD_ok s1.same ty rx, ?_⟩
  refine ka σ H (clrS env i) F ((v, d) :: R) _ E _ s1 f1 (fun vs ds e2 H2 F2 s2 l st f2 => ?_) xk.cons
  obtain ⟨rs', sl, ab⟩ := st
  have pq : (rs' ++ (stR e2.st ++ (vs.zip ds ++ (v, d) :: R))).Perm ((v, d) :: (vs.zip ds ++ (R ++ (rs' ++ stR e2.st)))) := by
    rw [← List.append_assoc]
    refine (List.Perm.append_left _ List.perm_middle).trans ?_
    refine List.perm_middle.trans (List.Perm.cons _ ?_)
    refine List.perm_append_comm.trans ?_
    rw [List.append_assoc]
  refine km F2 H2 v d vs ds [] _ _ Q' l (ab.perm pq) f2 fun z dz d' F3 H3 s3 _ ab3 qz => ?_
  refine k z dz (setS e2 i d') H3 F3 (s2.trans s3) ?_ qz
  have st3 : StA (tx X) F3 H3 σ e2 [] ((v, d') :: (z, dz) :: R) := ⟨rs', sl, ab3.perm (by
    refine (List.Perm.swap ..).trans ?_
    rw [← List.append_assoc rs']
    exact List.perm_append_comm (l₁ := (v, d') :: (z, dz) :: R) (l₂ := rs' ++ stR e2.st))⟩
  have hl : i < e2.sl.length := by
    rw [← st3.len]
    exact (List.getElem?_eq_some_iff.mp e1).1
  have st4 := StA.put (i := i) st3 hl
  rwa [set_self e1] at st4
end
end
end Mf
set_option Elab.async false
set_option linter.all false
set_option maxHeartbeats 1000000
/-! Stores into owned things; sharing; displays of dicts; several names at once. -/
namespace Mf
open PySem PySem.Spec PyProof.Rows L2

section
variable {T : Tx} {F H : Hp} {L : List Addr} {R : Rs}
section
variable {κ : Type} [DecidableEq κ]
theorem map_put {k : κ} {v : V} {d : D} (rv : RO T F H v d []) : ∀ {kvs : List (κ × V)} {ds : List (κ × D)} {R : Rs}, kvs.map (·.1) = ds.map (·.1) → Abs T F H L ((kvs.map (·.2)).zip (ds.map (·.2)) ++ R) →
    Abs T F H L (((kvs.map fun p => if p.1 = k then (p.1, v) else p).map (·.2)).zip ((ds.map fun p => if p.1 = k then (p.1, d) else p).map (·.2)) ++ R)
  | [], [], R, _, h => h
  | [], _ :: _, _, e, _ => nomatch e
  | _ :: _, [], _, e, _ => nomatch e
  | (k1, v1) :: kvs, (k2, d2) :: ds, R, e, h => by
    simp only [List.map_cons, List.cons.injEq] at e
    obtain ⟨e1, e2⟩ := e
    have e1' : k1 = k2 := e1
    subst e1'
    have h : Abs T F H L ((v1, d2) :: ((kvs.map (·.2)).zip (ds.map (·.2)) ++ R)) := h
    by_cases hk : k1 = k
    · have := Abs.push (map_put (k := k) rv e2 h.tail) rv
      simpa [hk] using this
    · have := map_put (k := k) rv e2 (R := (v1, d2) :: R) (h.perm List.perm_middle.symm)
      have := this.perm List.perm_middle
      simpa [hk] using this
theorem map_same {α : Type} {k : κ} {x : α} : ∀ {ds : List (κ × α)}, k ∉ ds.map (·.1) → (ds.map fun p => if p.1 = k then (p.1, x) else p) = ds
  | [], _ => rfl
  | p :: ds, h => by
    rw [List.map_cons, List.mem_cons, not_or] at h
    rw [List.map_cons, map_same h.2, if_neg (fun e => h.1 e.symm)]
theorem map_putO {k : κ} {v : V} {d : D} : ∀ {kvs : List (κ × V)} {ds : List (κ × D)} {R : Rs}, kvs.map (·.1) = ds.map (·.1) → (ds.map (·.1)).Nodup → k ∈ ds.map (·.1) → Abs T F H L ((kvs.map (·.2)).zip (ds.map (·.2)) ++ (v, d) :: R) →
    Abs T F H L (((kvs.map fun p => if p.1 = k then (p.1, v) else p).map (·.2)).zip ((ds.map fun p => if p.1 = k then (p.1, d) else p).map (·.2)) ++ R)
  | [], [], R, _, _, m, h => by simp at m
  | [], _ :: _, _, e, _, _, _ => nomatch e
  | _ :: _, [], _, e, _, _, _ => nomatch e
  | (k1, v1) :: kvs, (k2, d2) :: ds, R, e, nd, m, h => by
    simp only [List.map_cons, List.cons.injEq] at e
    obtain ⟨e1, e2⟩ := e
    have e1' : k1 = k2 := e1
    subst e1'
    have h : Abs T F H L ((v1, d2) :: ((kvs.map (·.2)).zip (ds.map (·.2)) ++ (v, d) :: R)) := h
    rw [List.map_cons, List.nodup_cons] at nd
    by_cases hk : k1 = k
    · subst hk
      have n2 : k1 ∉ kvs.map (·.1) := by rw [e2]; exact nd.1
      have := (h.tail).perm List.perm_middle
      have n1 : k1 ∉ ds.map (·.1) := nd.1
      rw [List.map_cons (l := kvs), List.map_cons (l := ds), map_same n1, map_same n2]
      simpa using this
    · have m' : k ∈ ds.map (·.1) := by
        rw [List.map_cons, List.mem_cons] at m
        exact m.resolve_left fun e => hk e.symm
      have h2 : Abs T F H L ((kvs.map (·.2)).zip (ds.map (·.2)) ++ (v, d) :: (v1, d2) :: R) := h.perm (List.perm_middle.symm.trans (List.Perm.append_left _ (.swap ..)))
      have := (map_putO e2 nd.2 m' h2).perm List.perm_middle
      simpa [hk] using this
theorem any_iff {α : Type} {k : κ} {ds : List (κ × α)} : (ds.any fun p => decide (p.1 = k)) = true ↔ k ∈ ds.map (·.1) := by
  simp [List.any_eq_true]
theorem put_keys {k : κ} {v : V} {d : D} {kvs : List (κ × V)} {ds : List (κ × D)} (e : kvs.map (·.1) = ds.map (·.1)) : (putK kvs k v).map (·.1) = (putD ds k d).map (·.1) := by
  have m : ∀ {α : Type} (x : α) (l : List (κ × α)), (l.map fun p => if p.1 = k then (p.1, x) else p).map (·.1) = l.map (·.1) := by
    intro α x l
    rw [List.map_map]
    refine List.map_congr_left fun p _ => ?_
    show (if p.1 = k then (p.1, x) else p).1 = p.1
    split <;> rfl
  unfold putK putD
  by_cases h : k ∈ ds.map (·.1)
  · rw [if_pos (any_iff.mpr (by rw [e]; exact h)), if_pos (any_iff.mpr h), m, m, e]
  · rw [if_neg (fun z => h (by rw [← e]; exact any_iff.mp z)), if_neg (fun z => h (any_iff.mp z)), List.map_append, List.map_append, e]; rfl
theorem put_abs {k : κ} {v : V} {d : D} {kvs : List (κ × V)} {ds : List (κ × D)} (e : kvs.map (·.1) = ds.map (·.1)) (c : nown d = true ∨ (ds.map (·.1)).Nodup) (h : Abs T F H L ((kvs.map (·.2)).zip (ds.map (·.2)) ++ (v, d) :: R)) :
    Abs T F H L (((putK kvs k v).map (·.2)).zip ((putD ds k d).map (·.2)) ++ R) := by
  unfold putK putD
  by_cases hm : k ∈ ds.map (·.1)
  · rw [if_pos (any_iff.mpr (by rw [e]; exact hm)), if_pos (any_iff.mpr hm)]
    rcases c with c | c
    · have h1 := h.perm List.perm_middle
      exact map_put (h1.head0 c) e h1.tail
    · exact map_putO e c hm h
  · rw [if_neg (fun z => hm (by rw [← e]; exact any_iff.mp z)), if_neg (fun z => hm (any_iff.mp z)), List.map_append, List.map_append, List.zip_append (by simpa using congrArg List.length e), List.append_assoc]
    exact h
end
end
section
variable {X : Cx} {W : WX}
/-- x[y] = d -/
def setD (x y d : D) : Option D := match x with
  | .lst .own ds => (match y with
    | .int i => (ixN ds.length i).map fun j => .lst .own (ds.set j d)
    | _ => none)
  | .dct .own ds => (match keyD y with
    | some k => if ds.length < sizeLine ∧ (nown d = true ∨ (ds.map (·.1)).Nodup) then some (.dct .own (putD ds k d)) else none
    | none => none)
  | .dtt .own ds => (match y with
    | .tup es => (match keysD es with
      | some k => if ds.length < sizeLine ∧ (nown d = true ∨ (ds.map (·.1)).Nodup) then some (.dtt .own (putD ds k d)) else none
      | none => none)
    | _ => none)
  | _ => none
def rSetX : TSet := fun o i v H Q => rSetL o i v H Q ∨ rSetD o i v H Q
theorem set_any (hu : X.A.units + 1 < cLine) : PSet X rSetX := by
  intro pins s σ H o i v ov iv u Q I ro ri rv h
  rcases h with h | h
  · exact set_list pins s σ H o i v ov iv u Q I ro ri rv h
  · exact set_dict hu pins s σ H o i v ov iv u Q I ro ri rv h
theorem set_abs {F H : Hp} {L : List Addr} {R : Rs} {x y v : V} {dx dy d d' : D} {B : List Addr} (ry : RO (tx X) F H y dy B) (h : setD dx dy d = some d') (ab : Abs (tx X) F H L ((x, dx) :: (v, d) :: R)) {Q : Hp → Prop}
    (q : ∀ H', Same F H' → (∀ b ∈ L, H' b = H b) → Abs (tx X) F H' L ((x, d') :: R) → Q H') : rSetX x y v H Q := by
  cases dx with
  | lst m ds =>
    cases m with
    | own =>
      cases dy with
      | int i =>
        obtain ⟨rfl, rfl⟩ := ry.int_inv
        have h : ((ixN ds.length i).map fun j => D.lst .own (ds.set j d)) = some d' := h
        obtain ⟨j, ej, rfl⟩ := Option.map_eq_some_iff.mp h
        obtain ⟨a, ws, rfl, ha, lw, h1⟩ := ab.ownL
        have hj := (ixN_seq ej).2.1
        have ed : ds[j]? = some ds[j] := List.getElem?_eq_getElem hj
        obtain ⟨w, ew⟩ := len_at lw ed
        refine .inl ⟨a, ws, i, j, rfl, rfl, ha, by rw [lw]; exact ej, ?_⟩
        have h2 : Abs (tx X) F H (a :: L) ((ws.set j v).zip (ds.set j d) ++ R) := by
          have hz := zip_at (ws := ws.set j v) (xs := ds.set j d) (by simpa using lw) (k := j) (v := v) (d := d) (by rw [List.getElem?_set_self (by omega)]) (by rw [List.getElem?_set_self hj])
          rw [List.eraseIdx_set_eq, List.eraseIdx_set_eq] at hz
          have h3 := (h1.perm ((zip_at lw ew ed).append_right _)).tail
          exact (h3.perm (List.perm_middle.trans (by exact .refl _))).perm (hz.symm.append_right R)
        exact q _ ((h2.write (o := .lst (ws.set j v))).same) (fun b m => res_keep h1 m) (Abs.closeL h2.write upd_same (by simpa using lw))
      | _ => cases h
    | _ => cases h
  | dct m ds =>
    cases m with
    | own =>
      simp only [setD] at h
      cases hk : keyD dy with
      | none => rw [hk] at h; cases h
      | some k =>
        rw [hk] at h
        simp only at h
        split at h
        · rename_i c
          cases h
          obtain ⟨a, kvs, rfl, ha, e, h1⟩ := ab.ownK
          have el : kvs.length = ds.length := by simpa using congrArg List.length e
          have ey := ry.key hk
          subst ey
          have h2 := put_abs (k := k) e c.2 h1
          exact .inr ⟨a, _, rfl, DPut.k ha (by omega), q _ ((h2.write (o := .dK (putK kvs k v))).same) (fun b m => res_keep h1 m) (Abs.closeK h2.write upd_same (put_keys e))⟩
        · cases h
    | _ => cases h
  | dtt m ds =>
    cases m with
    | own =>
      cases dy with
      | tup es =>
        simp only [setD] at h
        cases hk : keysD es with
        | none => rw [hk] at h; cases h
        | some k =>
          rw [hk] at h
          simp only at h
          split at h
          · rename_i c
            cases h
            obtain ⟨a, kvs, rfl, ha, e, h1⟩ := ab.ownQ
            have el : kvs.length = ds.length := by simpa using congrArg List.length e
            cases ry with
            | @tup b vs _ _ hb rs =>
              have ek := rs.keys hk
              subst ek
              have h2 := put_abs (k := k) e c.2 h1
              exact .inr ⟨a, _, rfl, DPut.t ha (ab.same _ _ hb) (by omega), q _ ((h2.write (o := .dT (putK kvs k v))).same) (fun b m => res_keep h1 m) (Abs.closeQ h2.write upd_same (put_keys e))⟩
          · cases h
      | _ => cases h
    | _ => cases h
  | _ => cases h
/-- the target o[i] -/
def tSub (q : QF) (g : PF) : GF := fun d env Q => q env fun dx put => g env fun y => onO (setD dx y d) fun d' => Q (put d')
theorem dg_sub {o i : Expr} {q : QF} {g : PF} {pos : Pos} (hu : X.A.units + 100 < cLine) (hq : DQ X o q) (hi : DP X i g) (ha : ∀ v, assign (.Subscript o i pos) X.env v = (do
      let ov ← holding [v] (eval o X.env)
      let iv ← holding [v, ov] (eval i X.env)
      standAt pos
      holding [v, ov, iv] (setItem ov iv v)
      release [v, ov, iv] []) := by intro _; rfl) : DG X [] (.Subscript o i pos) (tSub q g) := by
  obtain ⟨to, po, ko⟩ := hq.ex
  obtain ⟨ti, pi', ki⟩ := hi.ex
  refine ⟨_, pg_sub po pi' (set_any (by omega)) ha, fun σ H env F R v d Q Q' s f k => ?_⟩
  refine ko σ H env F ((v, d) :: R) _ _ s f fun x dx put F1 H1 g1 op f1 => ?_
  refine ki σ H1 env F1 _ _ _ (s.gr g1) f1 fun y dy B H2 F2 g2 ry f2 => ?_
  obtain ⟨d', e, f2⟩ := onO_some f2
  obtain ⟨eO, L, R0, st, cl⟩ := op F2 H2 g2
  obtain ⟨rs', sl, ab⟩ := st
  have pq : (rs' ++ (stR eO.st ++ ((x, dx) :: (R0 ++ (v, d) :: R)))).Perm ((x, dx) :: (v, d) :: (R0 ++ R ++ (rs' ++ stR eO.st))) := by
    rw [← List.append_assoc]
    refine List.perm_middle.trans (List.Perm.cons _ ?_)
    refine List.perm_append_comm.trans ?_
    exact List.Perm.append_right (rs' ++ stR eO.st) (List.perm_middle (l₁ := R0) (l₂ := R) (a := (v, d)))
  refine set_abs ry e (ab.perm pq) fun H3 s3 keep ab3 => ?_
  refine k σ (put d') H3 F2 (g1.trans g2).f ⟨rfl, fun _ _ => rfl⟩ (cl F2 H3 d' R (Same.refl _) keep ⟨rs', sl, ab3.perm ?_⟩) f2
  refine List.Perm.trans ?_ (List.perm_append_comm (l₁ := (x, d') :: (R0 ++ R)) (l₂ := rs' ++ stR eO.st) |>.trans (by rw [List.append_assoc]))
  exact .refl _

/-! ### stores of statements -/
def sAsg (fe : DF) (g : GF) : SF := fun N env => fe env (fun d e1 => g d e1 N.nx) N.ex
theorem ds_asg {tg e : Expr} {fe : DF} {g : GF} {ws : List Nat} {pos : Pos} (he : DE X W e fe) (hg : DG X ws tg g) (hs : swapsWithSole [tg] e pos.line X.env = pure false := by rfl) (hw : swappedStores [tg] e X.env = pure none := by rfl) (h1 : (assignEach [tg] X.env).map (·.2) = [assign tg X.env] := by rfl) : DS X W (.Assign [tg] e pos) (sAsg fe g) := by
  obtain ⟨t, p, k⟩ := he.ex
  obtain ⟨u, p2, k2⟩ := hg.ex
  refine ⟨_, ps_asg p p2 hs hw h1, fun σ H env F R N D' s f z x => ?_⟩
  refine k σ H env F R _ _ _ s f (fun v d e1 H1 F1 s1 st1 f1 => ?_) x
  exact k2 σ H1 e1 F1 R v d _ _ st1 f1 fun σ' e2 H2 F2 s2 _ st2 f2 => z.nx σ' e2 H2 F2 (s1.trans s2) st2 f2
def sPar (i j : Nat) (fr : AF) : SF := fun N env => fr env (fun ds e1 => match ds with
  | [x, y] => i < e1.sl.length ∧ j < e1.sl.length ∧ N.nx (setS (setS e1 i x) j y)
  | _ => False) N.ex
theorem ds_par {i j : Nat} {x y : Str} {a b : Expr} {fr : AF} {px py pt pos : Pos} {kt k2 pt2} (hc : X.calm = true) (hN : X.N.Nodup) (hi : X.N[i]? = some x := by rfl) (hj : X.N[j]? = some y := by rfl) (hij : i ≠ j := by decide)
    (hx : X.env.scope.names.lookup x = some .local := by rfl) (hy : X.env.scope.names.lookup y = some .local := by rfl) (ha : DA X W [a, b] fr)
    (hw : swappedStores [.Tuple [.Name x px, .Name y py] kt pt] (.Tuple [a, b] k2 pt2) X.env = pure (some [x, y]) := by rfl)
    (hs : swapsWithSole [.Tuple [.Name x px, .Name y py] kt pt] (.Tuple [a, b] k2 pt2) pos.line X.env = pure false := by rfl) :
    DS X W (.Assign [.Tuple [.Name x px, .Name y py] kt pt] (.Tuple [a, b] k2 pt2) pos) (sPar i j fr) := by
  obtain ⟨t, p, k⟩ := ha.ex
  refine ⟨_, ps_par hc hN hi hj hij hx hy p hw hs, fun σ H env F R N D' s f z x => ?_⟩
  refine k σ H env F R _ _ _ s f (fun vs ds e1 H1 F1 s1 l1 st1 f1 => ?_) x
  match ds, l1, f1 with
  | [d1, d2], l1, f1 =>
    match vs, l1 with
    | [v1, v2], l1 =>
      obtain ⟨b1, b2, f1⟩ := f1
      refine ⟨v1, v2, rfl, ?_⟩
      have st2 : StA (tx X) F1 H1 (σ.set i (some v1)) (setS e1 i d1) [] ((v2, d2) :: R) := StA.put st1 b1
      exact z.nx _ _ H1 F1 s1 (StA.put st2 (by simpa [setS] using b2)) f1
def sPar3 (i j l : Nat) (fr : AF) : SF := fun N env => fr env (fun ds e1 => match ds with
  | [x, y, w] => i < e1.sl.length ∧ j < e1.sl.length ∧ l < e1.sl.length ∧ N.nx (setS (setS (setS e1 i x) j y) l w)
  | _ => False) N.ex
theorem ds_par3 {i j l : Nat} {x y w : Str} {a b c : Expr} {fr : AF} {px py pw pt pos : Pos} {kt k2 pt2} (hc : X.calm = true) (hN : X.N.Nodup) (hi : X.N[i]? = some x := by rfl) (hj : X.N[j]? = some y := by rfl) (hl : X.N[l]? = some w := by rfl) (hij : i ≠ j := by decide) (hil : i ≠ l := by decide) (hjl : j ≠ l := by decide)
    (hx : X.env.scope.names.lookup x = some .local := by rfl) (hy : X.env.scope.names.lookup y = some .local := by rfl) (hz : X.env.scope.names.lookup w = some .local := by rfl) (ha : DA X W [a, b, c] fr)
    (hw : swappedStores [.Tuple [.Name x px, .Name y py, .Name w pw] kt pt] (.Tuple [a, b, c] k2 pt2) X.env = pure (some [x, y, w]) := by rfl)
    (hs : swapsWithSole [.Tuple [.Name x px, .Name y py, .Name w pw] kt pt] (.Tuple [a, b, c] k2 pt2) pos.line X.env = pure false := by rfl) :
    DS X W (.Assign [.Tuple [.Name x px, .Name y py, .Name w pw] kt pt] (.Tuple [a, b, c] k2 pt2) pos) (sPar3 i j l fr) := by
  obtain ⟨t, p, k⟩ := ha.ex
  refine ⟨_, ps_par3 hc hN hi hj hl hij hil hjl hx hy hz p hw hs, fun σ H env F R N D' s f z x => ?_⟩
  refine k σ H env F R _ _ _ s f (fun vs ds e1 H1 F1 s1 l1 st1 f1 => ?_) x
  match ds, l1, f1 with
  | [d1, d2, d3], l1, f1 =>
    match vs, l1 with
    | [v1, v2, v3], l1 =>
      obtain ⟨b1, b2, b3, f1⟩ := f1
      refine ⟨v1, v2, v3, rfl, ?_⟩
      have st2 : StA (tx X) F1 H1 (σ.set i (some v1)) (setS e1 i d1) [] ((v2, d2) :: (v3, d3) :: R) := StA.put st1 b1
      have st3 : StA (tx X) F1 H1 ((σ.set i (some v1)).set j (some v2)) (setS (setS e1 i d1) j d2) [] ((v3, d3) :: R) := StA.put st2 (by simpa [setS] using b2)
      exact z.nx _ _ H1 F1 s1 (StA.put st3 (by simpa [setS] using b3)) f1
/-- (a, b, ..) = a list, which goes -/
def tLstT (n : Nat) (g : GsF) : GF := fun d env Q => match d with
  | .lst m ds => ds.length = n ∧ g ds env Q
  | _ => False
theorem Abs.unres {T : Tx} {F H : Hp} {L : List Addr} {a : Addr} {rs : Rs} (h : Abs T F H (a :: L) rs) : Abs T F H L rs := by
  obtain ⟨A, r, nd, f⟩ := h.own
  exact ⟨h.same, fun b m => h.res b (List.mem_cons_of_mem _ m), A, r, (List.nodup_cons.mp nd).2, fun b m => f b (List.mem_cons_of_mem _ m)⟩
theorem dg_lst {es : List Expr} {k : Nat} {g : GsF} {n : Nat} {ws : List Nat} {pos : Pos} (hc : X.calm = true) (h : DGs X ws es g)
    (hn : (assignEach es X.env).length = n := by rfl) (hst : (assignEach es X.env).findIdx? (·.1) = none := by rfl) : DG X ws (.Tuple es k pos) (tLstT n g) := by
  obtain ⟨t, p, kk⟩ := h.ex
  refine ⟨_, pg_unl hc p hn hst, fun σ H env F R v d Q Q' s f q => ?_⟩
  cases d with
  | lst m ds =>
    obtain ⟨f1, f3⟩ := f
    have fin : ∃ z : Addr × List V, (v = .ref z.1 ∧ H z.1 = some (.lst z.2) ∧ z.2.length = ds.length) ∧ StA (tx X) F H σ env [] (z.2.zip ds ++ R) := by
      refine s.liftE (P := fun z : Addr × List V => v = .ref z.1 ∧ H z.1 = some (.lst z.2) ∧ z.2.length = ds.length) (FF := fun _ => F) (HH := fun _ => H) (LL := fun _ => []) (G := fun z => z.2.zip ds ++ R) fun Z h => ?_
      cases m with
      | own =>
        obtain ⟨a, ws, e1, e2, e3, h'⟩ := Abs.ownL h
        exact ⟨(a, ws), ⟨e1, e2, e3⟩, by rw [List.append_assoc]; exact h'.unres⟩
      | _ =>
        have r := h.head0 rfl
        cases r with
        | @lstF a ws _ _ hm ha rr => exact ⟨(a, ws), ⟨rfl, h.same _ _ ha, rr.len⟩, by rw [List.append_assoc]; exact Abs.pushAll rr h.tail⟩
    obtain ⟨⟨a, ws⟩, ⟨rfl, ha, l⟩, st⟩ := fin
    exact ⟨a, ws, rfl, SqL_of ha, l.trans f1, kk σ H env F R ws ds Q Q' l st f3 q⟩
  | _ => exact f.elim
/-- name = a new list, which lies in the store from then on (alone there, or beside what lay there) -/
def sSetSh (keep : Bool) (i : Nat) (fe : DF) : SF := fun N env => fe env (fun d e1 => i < e1.sl.length ∧ (match d with
  | .lst .own _ => True
  | _ => False) ∧ ∀ a, N.nx ⟨e1.sl.set i (some (.ptr a)), (a, d) :: (if keep = true then e1.st else [])⟩) N.ex
theorem ds_setSh {keep : Bool} {i : Nat} {x : Str} {pos' pos : Pos} {e : Expr} {fe : DF} (hN : X.N.Nodup) (hi : X.N[i]? = some x) (hx : Loc X.env.scope x) (he : DE X W e fe) (hs : swapsWith e (some (.Name x pos')) pos.line X.env = pure false := by rfl)
    (hf : X.fn x = true ∨ X.env.scope.names.lookup x = some .local := by first | exact .inl rfl | exact .inr rfl | assumption) : DS X W (.Assign [.Name x pos'] e pos) (sSetSh keep i fe) := by
  obtain ⟨t, p, k⟩ := he.ex
  refine ⟨_, ps_set hN hi hx p hs hf, fun σ H env F R N D' s f z x => ?_⟩
  refine k σ H env F R _ _ _ s f (fun v d e1 H1 F1 s1 st1 q1 => ?_) x
  obtain ⟨h1, h2, h3⟩ := q1
  have hv : ∃ a, v = .ref a := by
    obtain ⟨A, r⟩ := st1.abs.head
    match d, h2, r with
    | .lst .own ds, _, r =>
      cases r with
      | lstO => exact ⟨_, rfl⟩
      | lstF => exact ⟨_, rfl⟩
  obtain ⟨a, rfl⟩ := hv
  refine z.nx _ _ H1 F1 s1 ?_ (h3 a)
  obtain ⟨rs, sl, ab⟩ := st1
  have st2 : StA (tx X) F1 H1 σ ⟨e1.sl, (a, d) :: (if keep = true then e1.st else [])⟩ [] R := by
    refine ⟨rs, sl, ?_⟩
    cases keep with
    | true => exact ab.perm (List.Perm.append_left _ List.perm_middle)
    | false =>
      have q : (rs ++ (stR e1.st ++ (V.ref a, d) :: R)).Perm (stR e1.st ++ (((V.ref a, d) :: R) ++ rs)) := by
        rw [← List.append_assoc (stR e1.st)]
        exact List.perm_append_comm
      have h := (ab.perm q).drop
      exact h.perm (List.perm_append_comm (l₁ := (V.ref a, d) :: R) (l₂ := rs))
  exact StA.put (i := i) (st2.push (.ptr a)) h1
/-! ### empty dicts -/
def dK0 : DF := fun env Q _ => Q (.dct .own []) env
def dT0 : DF := fun env Q _ => Q (.dtt .own []) env
theorem new_dct {T : Tx} {F H : Hp} {σ : L2.St} {e : En} {R : Rs} {p : Addr} (s : StA T F H σ e [] R) (hp : H p = none) : StA T F (upd H p (.dK [])) σ e [] ((.ref p, .dct .own []) :: R) :=
  s.add (Gr.new s.same hp) (B := [p]) (.dctO upd_same rfl .nil) (by simp) fun b m => by
    have e : b = p := by simpa using m
    subst e
    exact ⟨Same.free s.same hp, hp⟩
theorem new_dtt {T : Tx} {F H : Hp} {σ : L2.St} {e : En} {R : Rs} {p : Addr} (s : StA T F H σ e [] R) (hp : H p = none) : StA T F (upd H p (.dT [])) σ e [] ((.ref p, .dtt .own []) :: R) :=
  s.add (Gr.new s.same hp) (B := [p]) (.dttO upd_same rfl .nil) (by simp) fun b m => by
    have e : b = p := by simpa using m
    subst e
    exact ⟨Same.free s.same hp, hp⟩
theorem de_K0 {pos : Pos} : DE X W (.Dict [] [] pos) dK0 := ⟨_, pe_dnewK, fun σ H env F R Q E Q' s f q _ p hp => q _ _ env _ F (Same.refl _) (new_dct s hp) f⟩
theorem de_T0 {pos : Pos} : DE X W (.Dict [] [] pos) dT0 := ⟨_, pe_dnewT, fun σ H env F R Q E Q' s f q _ p hp => q _ _ env _ F (Same.refl _) (new_dtt s hp) f⟩
end
end Mf
set_option Elab.async false
set_option linter.all false
set_option maxHeartbeats 1000000
/-! A call that borrows: its arguments are looked at, its answer is plain, nothing changes. -/
namespace Mf
open PySem PySem.Spec PyProof.Rows L2

/-- no reference in it -/
def flatD : D → Bool
  | .non => true
  | .bl _ => true
  | .int _ => true
  | .str _ => true
  | _ => false
theorem flat_ro {T : Tx} {F H F' H' : Hp} {v : V} {d : D} {A : List Addr} (h : flatD d = true) (r : RO T F H v d A) : RO T F' H' v d [] := by
  cases r <;> first | exact .non | exact .bl _ | exact .int _ | exact .str _ | simp [flatD] at h
def raws (H : Hp) : List Addr → Rs
  | [] => []
  | b :: r => (match H b with
    | some o => [(V.ref b, D.raw o)]
    | none => []) ++ raws H r
theorem raws_rl {T : Tx} {F H : Hp} : ∀ {B : List Addr}, (∀ b ∈ B, ∃ o, H b = some o) → RL T F H (raws H B) B
  | [], _ => .nil
  | b :: B, h => by
    obtain ⟨o, e⟩ := h b (by simp)
    have r := raws_rl (T := T) (F := F) fun c m => h c (List.mem_cons_of_mem b m)
    rw [raws, e]
    exact .cons (A := [b]) (.raw e) r
theorem raws_same {T : Tx} {F H H' : Hp} : ∀ {B : List Addr} {A : List Addr}, (∀ b ∈ B, ∃ o, H b = some o) → RL T F H' (raws H B) A → ∀ b ∈ B, H' b = H b
  | [], _, _, _, _, m => by simp at m
  | c :: B, A, h, r, b, m => by
    obtain ⟨o, e⟩ := h c (by simp)
    rw [raws, e] at r
    cases r with
    | cons r1 r2 =>
      rcases List.mem_cons.mp m with m | m
      · subst m
        cases r1 with
        | raw e' => rw [e', e]
      · exact raws_same (fun c m => h c (List.mem_cons_of_mem _ m)) r2 b m
theorem RL.keep {T : Tx} {F H H' : Hp} : ∀ {rs : Rs} {A : List Addr}, RL T F H rs A → (∀ b ∈ A, H' b = H b) → RL T F H' rs A
  | _, _, .nil, _ => .nil
  | _, _, .cons r1 r2, h => .cons (r1.keep fun b m => h b (List.mem_append_left _ m)) (RL.keep r2 fun b m => h b (List.mem_append_right _ m))
section
variable {X : Cx} {W : WX} {k n : Nat} {x : Str} {d : DSp} {p pos : Pos} {e : Expr} {es : List Expr} {gr : PAF}
def dFnB (d : DSp) (gr : PAF) : DF := fun env Q _ => gr env fun ds => d (fzs ds) [] (fun r _ => flatD r = true ∧ Q r env) fun _ _ => False
theorem de_fnB (F : FnD X.prog X.w X.K X.mg X.base k x n d) (hgd : X.A.guards = some []) (hr : Room k X.A) (hg : Gl X x) (ps : Pss X W) (ha : DPA X (e :: es) gr) (hdb : (x == ("__debug__" : Str)) = false := by decide)
    (he : starEach (e :: es) X.env = (false, eval e X.env) :: starEach es X.env := by rfl) (hpl : (backTo pos (starEach es X.env)).any (·.1) = false := by rfl) : DE X W (.Call (.Name x p) (e :: es) [] pos) (dFnB d gr) := by
  obtain ⟨len, f, fd, pl, en, F, hm, hk, hb⟩ := F
  obtain ⟨t, pa, ka⟩ := ha.ex
  refine ⟨_, pe_callG (E := WE W) F hgd hr hg hm hk hb ps pa hdb he hpl, fun σ H env F R Q E Q' s f q xk => ?_⟩
  refine ka σ H env F R _ _ s f fun vs ds A H1 F1 g1 ra f1 => ?_
  have s1 := s.gr g1
  obtain ⟨rs, sl, ab⟩ := s1
  obtain ⟨B, rb, nd, fr⟩ := ab.own
  rw [List.nil_append] at nd
  open Classical in
  let F2 : Hp := fun b => if b ∈ A then H1 b else F1 b
  have s12 : Same F1 F2 := fun b o z => by
    show (if b ∈ A then H1 b else F1 b) = some o
    split
    · exact g1.s _ _ z
    · exact z
  have s2H : Same F2 H1 := fun b o z => by
    have z : (if b ∈ A then H1 b else F1 b) = some o := z
    split at z
    · exact z
    · exact g1.s _ _ z
  have r2 : ROs (tx X) F2 H1 vs (fzs ds) [] := ROs.freeze s12 ra fun b m => if_pos m
  have live : ∀ b ∈ B.filter (fun b => decide (b ∉ A)), ∃ o, H1 b = some o := fun b m => rb.live (List.mem_filter.mp m).1
  have l2 : vs.length = (fzs ds).length := r2.len
  have rz := (RL.of_zip r2).2
  have ab2 : Abs (tx X) F2 H1 [] (vs.zip (fzs ds) ++ (stR [] ++ raws H1 (B.filter fun b => decide (b ∉ A)))) := by
    refine ⟨s2H, (fun b m => nomatch m), [] ++ B.filter (fun b => decide (b ∉ A)), rz.app (raws_rl live), ?_, fun b m => ?_⟩
    · have := nd.filter (fun b => decide (b ∉ A)); rwa [List.nil_append, List.nil_append]
    · have m : b ∈ B.filter (fun b => decide (b ∉ A)) := by simpa using m
      have m := List.mem_filter.mp m
      show (if b ∈ A then H1 b else F1 b) = none
      rw [if_neg (by simpa using m.2)]
      exact fr b (by simpa using m.1)
  refine ⟨l2.trans (len _ _ _ _ f1), F2, fzs ds, [], raws H1 (B.filter fun b => decide (b ∉ A)), _, _, l2, ab2, f1, fun v r st' H' F' s' ab' ⟨qb, qq⟩ => ?_, fun cls dd x' st' H' F' s' ab' rx q' => q'.elim⟩
  obtain ⟨C, rc, _, _⟩ := (Abs.drop ab'.tail).own
  have same1 := raws_same live rc
  have sameB : ∀ b ∈ B, H' b = H1 b := fun b m => by
    by_cases hA : b ∈ A
    · obtain ⟨o, e⟩ := rb.live m
      rw [e]
      exact ab'.same _ _ (s' _ _ (show (if b ∈ A then H1 b else F1 b) = some o from by rw [if_pos hA]; exact e))
    · exact same1 b (List.mem_filter.mpr ⟨m, by simpa using hA⟩)
  have sFH : Same F1 H' := fun b o z => ab'.same _ _ (s' _ _ (s12 _ _ z))
  have abF : Abs (tx X) F1 H' [] (rs ++ (stR env.st ++ R)) := ⟨sFH, fun b m => (by simp at m), B, rb.keep sameB, by simpa using nd, fr⟩
  obtain ⟨D, rd⟩ := ab'.head
  exact q v r env H' F1 g1.f (StA.push ⟨rs, sl, abF⟩ (flat_ro qb rd)) qq
end
end Mf
set_option Elab.async false
set_option linter.all false
set_option maxHeartbeats 1000000
/-! isinstance, the built-in types as values, repr, list(range), enumerate, starred items, is. -/
namespace Mf
open PySem PySem.Spec PyProof.Rows L2

section
variable {X : Cx} {W : WX}
/-! ### types -/
def tyS : D → Option String
  | .non => some "NoneType"
  | .bl _ => some "bool"
  | .int _ => some "int"
  | .str _ => some "str"
  | .lst _ _ => some "list"
  | .scr _ => some "list"
  | .tup _ => some "tuple"
  | .dct _ _ => some "dict"
  | .dtt _ _ => some "dict"
  | _ => none
def subS (a b : String) : Bool := a == b || (a == "bool" && b == "int")
def askable : List String := ["bool", "int", "str", "list", "tuple", "dict"]
theorem kit_tab : ∀ a ∈ ["NoneType", "bool", "int", "str", "list", "tuple", "dict"], ∀ b ∈ askable, kitB a b = some (subS a b) := by decide +kernel
theorem tyS_mem {d : D} {a : String} (h : tyS d = some a) : a ∈ ["NoneType", "bool", "int", "str", "list", "tuple", "dict"] := by
  cases d <;> simp [tyS] at h <;> subst h <;> simp
theorem RO.tyx {F H : Hp} (hS : Same F H) {v : V} {d : D} {A : List Addr} {a : String} (r : RO (tx X) F H v d A) (h : tyS d = some a) : TyX X.K H v (.type a) := by
  cases r with
  | non => cases h; exact .base .non
  | bl b => cases h; exact .base (.bl b)
  | int i => cases h; exact .base (.int i)
  | str z => cases h; exact .base (.str z)
  | lstO e _ => cases h; exact .base (.lst e)
  | lstF _ e _ => cases h; exact .base (.lst (hS _ _ e))
  | scr e =>
    cases h
    rcases e with (e | ⟨o, e⟩) | ⟨o, _, _, e, ho, _⟩
    · exact .base (.lst (hS _ _ e))
    · exact .base (.frz (hS _ _ e))
    · exact .kList e ho
  | tup e _ => cases h; exact .base (.tup (hS _ _ e))
  | dctO e _ _ => cases h; exact .base (.dK e)
  | dctF _ e _ _ => cases h; exact .base (.dK (hS _ _ e))
  | dttO e _ _ => cases h; exact .base (.dT e)
  | dttF _ e _ _ => cases h; exact .base (.dT (hS _ _ e))
  | _ => cases h
def typsD : List D → Option (List String)
  | [] => some []
  | .typ n :: r => if n ∈ askable then (typsD r).map (n :: ·) else none
  | _ => none
def isaD (x c : D) : Option Bool := (tyS x).bind fun a => match c with
  | .typ n => if n ∈ askable then some (subS a n) else none
  | .tup cs => (typsD cs).map fun ns => ns.any fun n => subS a n
  | _ => none
def cIsa : CF := c2 fun x c Q => onO (isaD x c) fun b => Q (.bl b)
theorem typs_ok {a : String} (ha : a ∈ ["NoneType", "bool", "int", "str", "list", "tuple", "dict"]) {T : Tx} {F H : Hp} : ∀ {cs : List D} {ns : List String} {vs : List V} {A : List Addr}, typsD cs = some ns → ROs T F H vs cs A →
    ∃ us, Paired ClsV vs us ∧ PySem.W.kitAny T.K (.type a) us = some (ns.any fun n => subS a n)
  | [], ns, vs, A, h, r => by
    cases h
    cases r
    exact ⟨[], .nil, rfl⟩
  | c :: cs, ns, vs, A, h, r => by
    cases r with
    | cons r1 r2 =>
      cases c with
      | typ n =>
        simp only [typsD] at h
        split at h
        · rename_i hn
          obtain ⟨ns', e, rfl⟩ := Option.map_eq_some_iff.mp h
          obtain ⟨us, p, k⟩ := typs_ok ha e r2
          cases r1
          refine ⟨.type n :: us, .cons (.ty n) p, ?_⟩
          have kt : PySem.W.kitOne T.K (.type a) (.type n) = some (subS a n) := kit_ty (kit_tab a ha n hn)
          refine kitAny_cons kt (fun hb => ?_) fun hb => ?_
          · rw [k, List.any_cons, hb, Bool.false_or]
          · rw [List.any_cons, hb, Bool.true_or]
        · cases h
      | _ => cases h
theorem cd_isa : CallD X (.builtin "isinstance") cIsa := by
  refine ⟨fun xs H Q => rIsi X.K xs H Q ∨ rIsiT X.K xs H Q, fun pins s σ H xs us Q I r h => ?_, fun F H vs ds A Q Q' hS r h hn => ?_⟩
  · rcases h with h | h
    · exact call_isi pins s σ H xs us Q I r h
    · exact call_isiT pins s σ H xs us Q I r h
  · match ds, r, h with
    | [x, c], r, h =>
      obtain ⟨v, w, B, C, rfl, rv, rc⟩ := r.two
      obtain ⟨b, e, h⟩ := onO_some h
      obtain ⟨a, ea, e⟩ := Option.bind_eq_some_iff.mp e
      cases c with
      | typ n =>
        simp only at e
        split at e
        · rename_i hn'
          cases e
          cases rc
          exact .inl ⟨v, _, _, _, _, rfl, .ty n, rv.tyx hS ea, kit_ty (kit_tab a (tyS_mem ea) n hn'), hn.flat hS (.bl _) h⟩
        · cases e
      | tup cs =>
        obtain ⟨ns, e1, rfl⟩ := Option.map_eq_some_iff.mp e
        cases rc with
        | @tup t ws _ _ ht rs =>
          obtain ⟨us, p, k⟩ := typs_ok (tyS_mem ea) e1 rs
          exact .inr ⟨v, t, ws, _, us, _, rfl, hS _ _ ht, p, rv.tyx hS ea, k, hn.flat hS (.bl _) h⟩
      | _ => cases e
/-- a built-in type, by its name -/
theorem dp_typ {x : Str} {T : String} {pos : Pos} (hg : Gl X x) (hm : X.mg x = none) (hv : bootBuiltins x = some (.type T)) (hn : x ≠ "__name__" := by decide) (hdb : (x == ("__debug__" : Str)) = false := by decide) : DP X (.Name x pos) (pC (.typ T)) :=
  dp_c (v := .ty T) ⟨fun pins s σ H Q I h => ld_blt I hg hm hv ⟨.ty T, H, I, rfl, h⟩ hn hdb⟩ fun _ _ => .typ T

/-! ### repr -/
/-- {} at the top -/
def emptyD : D → Bool
  | .dct _ [] => true
  | .dtt _ [] => true
  | _ => false
def pyR (d : D) : PyData := if emptyD d = true then .dict [] else toPy d
def shD (d : D) : Str := (pyR d).shown
def ReprOk (d : D) : Prop := (Pl 9 d = true ∨ emptyD d = true) ∧ (pyR d).showable = true ∧ (shD d).length ≤ sizeLine
def cRepr : CF := c1 fun x Q => ReprOk x ∧ Q (.str (shD x))
theorem plain_noDict : ∀ (n : Nat) (d : D), Pl n d = true → (toPy d).hasDict = false := by
  intro n
  induction n with
  | zero => intro d h; cases d <;> simp [Pl] at h <;> rfl
  | succ n ih =>
    have key : ∀ xs : List D, xs.all (Pl n) = true → PyData.hasDictAll (toPys xs) = false := by
      intro xs
      induction xs with
      | nil => intro _; rfl
      | cons d r ih2 =>
        intro h
        rw [List.all_cons, Bool.and_eq_true] at h
        rw [toPys, PyData.hasDictAll, ih d h.1, ih2 h.2]; rfl
    intro d h
    cases d with
    | lst m xs => exact key xs h
    | tup xs => exact key xs h
    | non => rfl
    | bl => rfl
    | int => rfl
    | str => rfl
    | _ => simp [Pl] at h
theorem repr_flat {prog : Program} {w : World} {A : Around} {E : Value → Shared → Prop} {s : Shared} {Q : Value → Shared → Prop} {v : V} {u : Value} (rv : RelV v u) {d : D} {F H : Hp} {B : List Addr} (r : RO (tx X) F H v d B) (hp : flatD d = true)
    (hs : (toPy d).showable = true) (hz : (toPy d).shown.length ≤ sizeLine) (h : ∀ u tk, Q (.str (toPy d).shown u) { s with toks := tk }) : wpAny (model prog w) A (call (.builtin "repr") [u]) Q E s := by
  cases r with
  | non => cases (show u = Value.none from rv); exact P.repr_of_none (h _ _)
  | bl b => cases (show u = Value.bool b from rv); exact P.repr_of_bool (h _ _)
  | int i =>
    obtain ⟨t, rfl⟩ := (show ∃ t, u = Value.int i t from rv)
    have hs' : decide (i.natAbs.log2 < 1920) = true := hs
    exact P.repr_of_int (of_decide_eq_true hs') (h _ _)
  | str z =>
    obtain ⟨t, rfl⟩ := (show ∃ t, u = Value.str z t from rv)
    exact P.repr_of_str (h _ _) (hsz := hz)
  | _ => simp [flatD] at hp

theorem repr_ref {pins : List (Addr × Obj)} {s : Shared} {σ : L2.St} {F H : Hp} {v : V} {u : Value} {d : D} {A : List Addr} {Q : VK} (hgd : X.A.guards = some []) (hu : X.A.units + 100 < cLine) (I : Inv X pins σ H s) (hS : Same F H) (r : RO (tx X) F H v d A) (rv : RelV v u) (ok : ReprOk d)
    (q : Q (.str (shD d)) H) : wpAny (model X.prog X.w) X.A (call (.builtin "repr") [u]) (EP X pins σ Q) X.xe s := by
  obtain ⟨hp, hs, hz⟩ := ok
  by_cases he : emptyD d = true
  · have ep : pyR d = .dict [] := by unfold pyR; rw [if_pos he]
    have rd : ∃ a, u = .ref a ∧ (a == sysModules) = false ∧ Reads s.heap (.ref a) (.dict []) [a] := by
      have done : ∀ {a : Addr} {o : Obj} {es : Array DictEntry} {n : Nat}, s.heap.get? a = some o → o.cls = .type "dict" → o.data = .dict es n → es.toList = [] → Reads s.heap (.ref a) (.dict []) [a] := fun {a o es n} h1 h2 h3 h4 =>
        .dict (kvs := []) (as := []) (bs := []) h1 h2 h3 (by rw [h4]; exact .nil) (by rw [h4]; exact .nil)
      have dk : ∀ {a : Addr}, H a = some (.dK []) → RelV (.ref a) u → ∃ a, u = .ref a ∧ (a == sysModules) = false ∧ Reads s.heap (.ref a) (.dict []) [a] := fun {a} e rv => by
        obtain ⟨_, z, vs, kv, o, es, n, h1, h2, h3, h4, h5, h6⟩ := dk_of I.hok e
        cases kv
        refine ⟨a, rv, z, done h1 h2.1 h3 ?_⟩
        have l := h5.length
        exact List.eq_nil_of_length_eq_zero (by simpa using l)
      have dt : ∀ {a : Addr}, H a = some (.dT []) → RelV (.ref a) u → ∃ a, u = .ref a ∧ (a == sysModules) = false ∧ Reads s.heap (.ref a) (.dict []) [a] := fun {a} e rv => by
        obtain ⟨_, z, vs, kv, o, es, n, h1, h2, h3, h4, h5, h6⟩ := dt_of I.hok e
        cases kv
        exact ⟨a, rv, z, done h1 h2.1 h3 h4⟩
      cases d with
      | dct m ds =>
        cases ds with
        | cons _ _ => simp [emptyD] at he
        | nil =>
          cases r with
          | @dctO a kvs _ _ e k _ =>
            cases kvs with
            | cons _ _ => simp at k
            | nil => exact dk e rv
          | @dctF a kvs _ _ _ e k _ =>
            cases kvs with
            | cons _ _ => simp at k
            | nil => exact dk (hS _ _ e) rv
      | dtt m ds =>
        cases ds with
        | cons _ _ => simp [emptyD] at he
        | nil =>
          cases r with
          | @dttO a kvs _ _ e k _ =>
            cases kvs with
            | cons _ _ => simp at k
            | nil => exact dt e rv
          | @dttF a kvs _ _ _ e k _ =>
            cases kvs with
            | cons _ _ => simp at k
            | nil => exact dt (hS _ _ e) rv
      | _ => simp [emptyD] at he
    obtain ⟨a, rfl, z, rd⟩ := rd
    have eq : shD d = (PyData.dict []).shown := by unfold shD; rw [ep]
    refine PySem.repr_of_reads' rd rfl (fun _ m => ?_) hgd (by show X.A.units + (1 + 1) < cLine; omega) (fun _ _ h => h) (fun h' u tk hk => ⟨.str (shD d), H, I.kept hk, by rw [eq]; exact ⟨_, rfl⟩, q⟩) (by rw [← eq]; exact hz)
    have e : sysModules = a := by simpa using m
    rw [e] at z
    simp at z
  · have hp : Pl 9 d = true := hp.resolve_right he
    have ep : pyR d = toPy d := by unfold pyR; rw [if_neg he]
    have eq : shD d = (toPy d).shown := by unfold shD; rw [ep]
    rw [ep] at hs
    rw [eq] at hz q
    obtain ⟨as, rd⟩ := r.rd I hS hp rv
    cases hf : flatD d with
    | true => exact repr_flat rv r hf hs hz fun u tk => ⟨.str _, H, I.tok tk, ⟨_, rfl⟩, q⟩
    | false =>
      have hr : ∃ a, u = .ref a := by
        cases r <;> first | (simp [flatD] at hf; done) | exact ⟨_, rv⟩ | simp [Pl] at hp
      obtain ⟨a, rfl⟩ := hr
      have dp := (Pl.plain hp).2
      exact PySem.repr_of_reads' rd hs (fun h => by rw [plain_noDict _ _ hp] at h; cases h) hgd (by omega) (fun _ _ h => h) (fun h' u tk hk => ⟨.str _, H, I.kept hk, ⟨_, rfl⟩, q⟩) hz
theorem cd_repr (hgd : X.A.guards = some []) (hu : X.A.units + 100 < cLine) : CallD X (.builtin "repr") cRepr := by
  open Classical in
  refine CallD.flat (fun ds => match ds with
    | [x] => if ReprOk x then some (.str (shD x)) else none
    | _ => none) (fun pins s σ F H vs us ds z A Q I hS r rv hg q => ?_) fun ds Q h => ?_
  · match ds, r, hg with
    | [x], r, hg =>
      simp only at hg
      split at hg
      · rename_i ok
        cases hg
        obtain ⟨v, rfl, r1⟩ := r.one
        obtain ⟨u, rfl, rv1⟩ := vals1 rv
        exact repr_ref hgd hu I hS r1 rv1 ok (q _ (.str _))
      · cases hg
  · match ds, h with
    | [x], h => exact ⟨_, if_pos h.1, h.2⟩

/-! ### list(range(..)) -/
abbrev RgF := En → (Int → Int → Prop) → Prop
structure DRg (X : Cx) (e : Expr) (g : RgF) : Prop where
  ex : ∃ t, PRg X e t ∧ ∀ (σ : L2.St) (H : Hp) (env : En) (F : Hp) (R : Rs) (Q : Int → Int → Prop) (Q' : Int → Int → Hp → Prop), StA (tx X) F H σ env [] R → g env Q →
    (∀ i j H' F', Gr F H F' H' → Q i j → Q' i j H') → t σ H Q'
def rg1 (ga : PF) : RgF := fun env Q => ga env fun x => match x with
  | .int n => Q 0 n
  | _ => False
def rg2 (ga gb : PF) : RgF := fun env Q => ga env fun x => gb env fun y => match x, y with
  | .int m, .int n => Q m n
  | _, _ => False
section
variable {a b e : Expr} {ga gb : PF} {g : RgF} {p pos : Pos}
theorem drg_1 (hg : Gl X "range") (hm : X.mg "range" = none) (ha : DP X a ga) (na : starEach [a] X.env = (false, eval a X.env) :: starEach [] X.env := by rfl) : DRg X (.Call (.Name "range" p) [a] [] pos) (rg1 ga) := by
  obtain ⟨t, pa, k⟩ := ha.ex
  refine ⟨_, prg_1 hg hm pa na, fun σ H env F R Q Q' s f q => ?_⟩
  refine k σ H env F R _ _ s f fun v d A H1 F1 g1 r f1 => ?_
  cases d with
  | int n =>
    obtain ⟨rfl, rfl⟩ := r.int_inv
    exact ⟨n, rfl, q 0 n H1 F1 g1 f1⟩
  | _ => exact f1.elim
theorem drg_2 (hg : Gl X "range") (hm : X.mg "range" = none) (ha : DP X a ga) (hb : DP X b gb) (na : starEach [a, b] X.env = (false, eval a X.env) :: starEach [b] X.env := by rfl)
    (nb : starEach [b] X.env = (false, eval b X.env) :: starEach [] X.env := by rfl) (hp : (backTo pos (starEach [b] X.env)).any (·.1) = false := by rfl) : DRg X (.Call (.Name "range" p) [a, b] [] pos) (rg2 ga gb) := by
  obtain ⟨t, pa, k⟩ := ha.ex
  obtain ⟨u, pb, k2⟩ := hb.ex
  refine ⟨_, prg_2 hg hm pa pb na nb hp, fun σ H env F R Q Q' s f q => ?_⟩
  refine k σ H env F R _ _ s f fun v d A H1 F1 g1 r f1 => ?_
  refine k2 σ H1 env F1 R _ _ (s.gr g1) f1 fun w d2 B H2 F2 g2 r2 f2 => ?_
  cases d with
  | int m =>
    cases d2 with
    | int n =>
      obtain ⟨rfl, rfl⟩ := r.int_inv
      obtain ⟨rfl, rfl⟩ := r2.int_inv
      exact ⟨m, n, rfl, rfl, q m n H2 F2 (g1.trans g2) f2⟩
    | _ => exact f2.elim
  | _ => exact f2.elim
/-- the ints i .. j - 1 -/
def rgD (i j : Int) : List D := (List.range (j - i).toNat).map fun k => D.int (i + (k : Nat))
theorem rgD_ro {T : Tx} {F H : Hp} (i j : Int) : ROs T F H (rgV i j) (rgD i j) [] := by
  unfold rgV rgD
  induction List.range (j - i).toNat with
  | nil => exact .nil
  | cons k r ih => exact .cons (A := []) (B := []) (.int _) ih
def dLRg (g : RgF) : DF := fun env Q _ => g env fun i j => RgOk i j ∧ Q (.lst .own (rgD i j)) env
def dTRg (g : RgF) : DF := fun env Q _ => g env fun i j => RgOk i j ∧ Q (.tup (rgD i j)) env
theorem de_listRg (hc : X.calm = true) (hg : Gl X "list") (hm : X.mg "list" = none) (he : DRg X e g) (na : starEach [e] X.env = (false, eval e X.env) :: starEach [] X.env := by rfl) : DE X W (.Call (.Name "list" p) [e] [] pos) (dLRg g) := by
  obtain ⟨t, pt, k⟩ := he.ex
  refine ⟨_, pe_listRg hc hg hm pt na, fun σ H env F R Q E Q' s f q _ => ?_⟩
  refine k σ H env F R _ _ s f fun i j H1 F1 g1 ⟨ok, qq⟩ => ⟨ok, fun p hp => ?_⟩
  refine q _ _ env _ F1 g1.f ?_ qq
  exact (s.gr g1).lift fun Z h => Abs.newL (vs := rgV i j) (ds := rgD i j) (Abs.pushAll (rgD_ro i j) h) (by unfold rgV rgD; simp) hp
theorem dp_listRg (hc : X.calm = true) (hg : Gl X "list") (hm : X.mg "list" = none) (he : DRg X e g) (na : starEach [e] X.env = (false, eval e X.env) :: starEach [] X.env := by rfl) : DP X (.Call (.Name "list" p) [e] [] pos) (fun env Q => g env fun i j => RgOk i j ∧ Q (.lst .frz (rgD i j))) := by
  obtain ⟨t, pt, k⟩ := he.ex
  refine ⟨_, pe_listRg hc hg hm pt na, fun σ H env F R Q Q' s f q => ?_⟩
  refine k σ H env F R _ _ s f fun i j H1 F1 g1 ⟨ok, qq⟩ => ⟨ok, fun p hp => ?_⟩
  have g2 := Gr.newF g1.s (o := .lst (rgV i j)) hp
  exact q _ _ [] _ _ (g1.trans g2) (.lstF (m := .frz) trivial upd_same (rgD_ro i j)) qq
end
/-! ### enumerate(list) -/
def iEnumD (fe : DF) : IF := fun env Q E => fe env (fun d e1 => match d with
  | .lst m ds => nown (.lst m ds) = true ∧ Q ((ds.zipIdx 0).map fun p => .tup [.int (p.2 : Nat), p.1]) e1
  | _ => False) E
theorem di_enum {e : Expr} {fe : DF} {p pos tpos : Pos} {elts : List Expr} {kk : Nat} (hg : Gl X "enumerate") (hm : X.mg "enumerate" = none) (ha : DE X W e fe) (hs : starEach [e] X.env = [(false, eval e X.env)] := by rfl) :
    DI X W (.Tuple elts kk tpos) (.Call (.Name "enumerate" p) [e] [] pos) (iEnumD fe) := by
  obtain ⟨t, pa, k⟩ := ha.ex
  refine ⟨_, pi_enum hg hm (pa_cons pa pa_nil (by rw [hs]; rfl)) hs, fun σ H env F R Q E R' s f q x => ?_⟩
  refine k σ H env F R _ E _ s f (fun v d e1 H1 F1 s1 st1 f1 => ?_) x
  cases d with
  | lst m ds =>
    obtain ⟨n, f1⟩ := f1
    have r := st1.abs.head0 n
    cases r with
    | @lstF a vs _ _ hm ha r =>
      refine ⟨a, vs, rfl, SqL_of (st1.same _ _ ha), q _ _ e1 H1 F1 s1 st1.tail ⟨fun i d hd F' H' sF sH => ?_, fun F' H' sF sH => ?_⟩ f1⟩
      · rw [List.getElem?_map, List.getElem?_zipIdx, Nat.zero_add] at hd
        cases hdi : ds[i]? with
        | none => rw [hdi] at hd; cases hd
        | some di =>
          rw [hdi] at hd
          cases hd
          obtain ⟨v, ev, rv⟩ := ROs.get r hdi
          refine ⟨⟨vs, v, SqL_of (sH _ _ (sF _ _ ha)), ev⟩, fun x H'' y => ?_⟩
          obtain ⟨T, x', rfl, hT, rfl, hx⟩ := y
          have ex := hx vs (SqL_of (sH _ _ (sF _ _ ha)))
          rw [ev] at ex
          cases ex
          have g2 := Gr.newF sH (o := .tup [.int (i : Nat), v]) hT
          refine ⟨_, g2, .tup upd_same ?_⟩
          exact .cons (A := []) (B := []) (.int _) (.cons (A := []) (B := []) ((rv.free (H' := H') rfl).mono (sF.trans g2.f) g2.h) .nil)
      · rw [List.length_map, List.length_zipIdx, ← r.len]
        exact ⟨vs, SqL_of (sH _ _ (sF _ _ ha)), Nat.le_refl _⟩
  | _ => exact f1.elim
/-! ### *e in a display -/
def aStar (fe : DF) (fr : AF) : AF := fun env Q E => fe env (fun d e1 => match d with
  | .lst _ xs => nowns xs = true ∧ fr e1 (fun ys e2 => Q (xs ++ ys) e2) E
  | .tup xs => nowns xs = true ∧ fr e1 (fun ys e2 => Q (xs ++ ys) e2) E
  | _ => False) E
theorem da_star {e : Expr} {es : List Expr} {fe : DF} {fr : AF} {p : Pos} (ha : DE X W e fe) (hr : DA X W es fr) (hs : starEach (.Starred e p :: es) X.env = (true, eval e X.env) :: starEach es X.env := by rfl) : DA X W (.Starred e p :: es) (aStar fe fr) := by
  obtain ⟨t, pt, k⟩ := ha.ex
  obtain ⟨u, pu, k2⟩ := hr.ex
  refine ⟨_, StX.pa_star pt pu hs, fun σ H env F R Q E Q' s f q x => ?_⟩
  refine k σ H env F R _ E _ s f (fun v d e1 H1 F1 s1 st1 f1 => ?_) x
  have fin : ∀ {a : Addr} {vs : List V} {xs : List D}, ROs (tx X) F1 H1 vs xs [] → vs.length = xs.length → fr e1 (fun ys e2 => Q (xs ++ ys) e2) E → u σ H1 fun ys H2 => Q' (vs ++ ys) H2 := fun {a vs xs} rs l f1 => by
    refine k2 σ H1 e1 F1 R _ E _ st1.tail f1 (fun ws ds e2 H2 F2 s2 l2 st2 f2 => ?_) (x.mono s1)
    refine q (vs ++ ws) (xs ++ ds) e2 H2 F2 (s1.trans s2) (by simp [l, l2]) ?_ f2
    have rs2 : ROs (tx X) F2 H2 vs xs [] := (rs.free (H' := H1) rfl).mono s2 (Same.refl _) |>.free rfl
    refine st2.lift fun Z h => ?_
    rw [List.zip_append l, List.append_assoc, List.append_assoc]
    rw [List.append_assoc] at h
    exact Abs.pushAll rs2 h
  obtain ⟨A, r⟩ := st1.abs.head
  cases d with
  | lst m xs =>
    obtain ⟨a, vs, rfl, ha, rs, l⟩ := r.lst_items st1.same f1.1
    exact ⟨a, vs, rfl, .inr (SqL_of ha), fin (a := a) rs l f1.2⟩
  | tup xs =>
    obtain ⟨a, vs, rfl, ha, _, rs, l⟩ := r.tup_items st1.same f1.1
    exact ⟨a, vs, rfl, .inl (SqT_of ha), fin (a := a) rs l f1.2⟩
  | _ => exact f1.elim
end
end Mf
set_option Elab.async false
set_option linter.all false
set_option maxHeartbeats 1000000
/-! Effect-free operands, a fresh answer. Freezing stores. -/
namespace Mf
open PySem PySem.Spec PyProof.Rows L2
section
variable {X : Cx} {W : WX} {a b c e : Expr} {ga gb gc : PF} {fa : DF} {r r2 : OpF} {pos p : Pos} {es : List Expr} {gr : PAF} {g : CF} {x : Str} {id T : String}
def nOp (r : OpF) (ga gb : PF) : DF := fun env Q _ => ga env fun x => gb env fun y => r x y fun z => Q z env
theorem de_opP {op : Operator} (ho : OpD X (binaryOp op) r) (ha : DP X a ga) (hb : DP X b gb) : DE X W (.BinOp a op b pos) (nOp r ga gb) := by
  obtain ⟨r', o, kr⟩ := ho.ex
  obtain ⟨ta, pa, ka⟩ := ha.ex
  obtain ⟨tb, pb, kb⟩ := hb.ex
  refine ⟨_, pe_op o pa pb, fun σ H env F R Q E Q' s f q _ => ?_⟩
  refine ka σ H env F R _ _ s f fun u du A H1 F1 g1 ra f1 => ?_
  refine kb σ H1 env F1 R _ _ (s.gr g1) f1 fun w dw B H2 F2 g2 rb f2 => ?_
  refine kr F2 H2 u w du dw A B _ Q' g2.s (ra.mono g2.f g2.h) rb f2 fun z d A' H' F' g' rz nz fz qz => ?_
  exact q z d env H' F' ((g1.trans g2).f.trans g'.f) (((s.gr g1).gr g2).add g' rz nz fz) qz
def nCall (g : CF) (gr : PAF) : DF := fun env Q _ => gr env fun ds => g ds fun z => Q z env
theorem nCallK {r' : List V → Hp → VK → Prop} {t : TA} (kr : ∀ F H vs ds A Q Q', Same F H → ROs (tx X) F H vs ds A → g ds Q → New X F H Q Q' → r' vs H Q')
    (k : ∀ (σ : L2.St) (H : Hp) (env : En) (F : Hp) (R : Rs) (Q : List D → Prop) (Q' : List V → Hp → Prop), StA (tx X) F H σ env [] R → gr env Q →
      (∀ vs ds A H' F', Gr F H F' H' → ROs (tx X) F' H' vs ds A → Q ds → Q' vs H') → t σ H Q')
    (σ : L2.St) (H : Hp) (env : En) (F : Hp) (R : Rs) (Q : D → En → Prop) (E : EK) (Q' : VK) (s : StA (tx X) F H σ env [] R) (f : nCall g gr env Q E)
    (q : ∀ v d env' H' F', Same F F' → StA (tx X) F' H' σ env' [] ((v, d) :: R) → Q d env' → Q' v H') (xk : ExK X W F R E) : tCB r' t σ H Q' := by
  refine k σ H env F R _ _ s f fun vs ds A H1 F1 g1 ra f1 => ?_
  exact kr F1 H1 vs ds A _ Q' g1.s ra f1 fun z d A' H' F' g' rz nz fz qz => q z d env H' F' (g1.f.trans g'.f) ((s.gr g1).add g' rz nz fz) qz
theorem de_callBP (hc : CallD X (.builtin id) g) (ha : DPA X (e :: es) gr) (hg : Gl X x) (hm : X.mg x = none) (hv : bootBuiltins x = some (.builtin id)) (hn : x ≠ "__name__" := by decide) (hdb : (x == ("__debug__" : Str)) = false := by decide)
    (he : starEach (e :: es) X.env = (false, eval e X.env) :: starEach es X.env := by rfl) (hpl : (backTo pos (starEach es X.env)).any (·.1) = false := by rfl) : DE X W (.Call (.Name x p) (e :: es) [] pos) (nCall g gr) := by
  obtain ⟨r, o, kr⟩ := hc.ex
  obtain ⟨t, pa, k⟩ := ha.ex
  exact ⟨_, pe_callB o hg hm hv pa hn hdb he hpl, nCallK kr k⟩
theorem de_callTyP (hc : CallD X (.type T) g) (ha : DPA X (e :: es) gr) (hg : Gl X x) (hm : X.mg x = none) (hv : bootBuiltins x = some (.type T)) (hn : x ≠ "__name__" := by decide) (hdb : (x == ("__debug__" : Str)) = false := by decide)
    (he : starEach (e :: es) X.env = (false, eval e X.env) :: starEach es X.env := by rfl) (hpl : (backTo pos (starEach es X.env)).any (·.1) = false := by rfl) : DE X W (.Call (.Name x p) (e :: es) [] pos) (nCall g gr) := by
  obtain ⟨r, o, kr⟩ := hc.ex
  obtain ⟨t, pa, k⟩ := ha.ex
  exact ⟨_, pe_callTy o hg hm hv pa hn hdb he hpl, nCallK kr k⟩
def nSl (ga : PF) (gl gh : OF) : DF := fun env Q _ => ga env fun x => gl env fun lo => gh env fun hi => onO (slD x lo hi) fun z => Q z env
theorem de_sliceP {lo hi : Option Expr} {gl gh : OF} {p2 : Pos} (ha : DP X a ga) (hl : DO X lo gl) (hh : DO X hi gh) : DE X W (.Subscript a (.Slice lo hi none p2) pos) (nSl ga gl gh) := by
  obtain ⟨r', o, kr⟩ := sld (X := X)
  obtain ⟨ta, pa, ka⟩ := ha.ex
  obtain ⟨tl, pl, kl⟩ := hl.ex
  obtain ⟨th, ph, kh⟩ := hh.ex
  refine ⟨_, pe_slice o pa pl ph, fun σ H env F R Q E Q' s f q _ => ?_⟩
  refine ka σ H env F R _ _ s f fun u du A H1 F1 g1 ra f1 => ?_
  refine kl σ H1 env F1 R _ _ (s.gr g1) f1 fun i H2 F2 g2 f2 => ?_
  refine kh σ H2 env F2 R _ _ ((s.gr g1).gr g2) f2 fun j H3 F3 g3 f3 => ?_
  exact kr F3 H3 u du A i j _ Q' g3.s (ra.mono (g2.trans g3).f (g2.trans g3).h) f3 fun z d A' H' F' g' rz nz fz qz => q z d env H' F' (((g1.trans g2).trans g3).trans g').f ((((s.gr g1).gr g2).gr g3).add g' rz nz fz) qz
/-- a chain, as a test -/
def bCh (r r2 : OpF) (ga gb gc : PF) : BF := fun env Q _ => pChain r r2 ga gb gc env fun z => onB z fun k => Q k env
theorem dt_P {g : PF} {e : Expr} (h : DP X e g) (he : ∀ whole, isTrue e X.env whole = (do let v ← whole; standAt e.pos; holding [v] (truthy v)) := by intro _; rfl) : DT X W e (fun env Q _ => g env fun z => onB z fun k => Q k env) := by
  obtain ⟨t, pt, k⟩ := h.ex
  refine ⟨_, pt_val pt he, fun σ H env F R Q E Q' s f q _ => ?_⟩
  refine k σ H env F R _ _ s f fun v d A H1 F1 g1 r f1 => ?_
  obtain ⟨b, rfl, f1⟩ := onB_some f1
  obtain ⟨rfl, rfl⟩ := r.bl_inv
  exact ⟨b, rfl, q b env H1 F1 g1.f (s.gr g1) f1⟩
/-- name = e, frozen -/
def sSetF (i : Nat) (fe : DF) : SF := fun N env => fe env (fun d e1 => i < e1.sl.length ∧ N.nx (setS e1 i (fz d))) N.ex
theorem ds_setF {i : Nat} {x : Str} {pos' : Pos} {fe : DF} (hN : X.N.Nodup) (hi : X.N[i]? = some x) (hx : Loc X.env.scope x) (he : DE X W e fe) (hs : swapsWith e (some (.Name x pos')) pos.line X.env = pure false := by rfl)
    (hf : X.fn x = true ∨ X.env.scope.names.lookup x = some .local := by first | exact .inl rfl | exact .inr rfl | assumption) : DS X W (.Assign [.Name x pos'] e pos) (sSetF i fe) := by
  obtain ⟨t, p, k⟩ := he.ex
  refine ⟨_, ps_set hN hi hx p hs hf, fun σ H env F R N D' s f z x => k σ H env F R _ _ _ s f (fun v d e1 H1 F1 s1 st1 q1 => ?_) x⟩
  obtain ⟨F2, s2, st2⟩ := st1.freeze
  exact z.nx _ _ H1 F2 (s1.trans s2) (st2.put q1.1) q1.2
/-- .. as a target -/
def tNameF (i : Nat) : GF := fun d env Q => i < env.sl.length ∧ Q (setS env i (fz d))
theorem dg_nameF {i : Nat} {x : Str} (hN : X.N.Nodup) (hi : X.N[i]? = some x) (hx : Loc X.env.scope x) (hf : X.fn x = true ∨ X.env.scope.names.lookup x = some .local := by first | exact .inl rfl | exact .inr rfl | assumption) : DG X [i] (.Name x pos) (tNameF i) := by
  refine ⟨_, pg_name hN hi hx hf, fun σ H env F R v d Q Q' s f q => ?_⟩
  obtain ⟨F2, s2, st2⟩ := s.freeze
  refine q _ _ H F2 s2 ⟨List.length_set, fun j hj => ?_⟩ (st2.put f.1) f.2
  rw [List.getElem?_set_ne]
  intro e
  exact hj (by simp [e])
/-- a slot's content, frozen from here on -/
def sFz (i : Nat) (f : SF) : SF := fun N env => onS (getS env i) fun d => f N (setS env i (fz d))
theorem db_fz {body : List Stmt} {f : SF} (i : Nat) (h : DB X W body f) : DB X W body (sFz i f) := by
  obtain ⟨t, p, k⟩ := h.ex
  refine ⟨t, p, fun σ H env F R N D' s f z x => ?_⟩
  obtain ⟨d, e, f⟩ := onS_some f
  obtain ⟨v, e1, s1⟩ := s.take (getS_some e)
  obtain ⟨F', hF, s2⟩ := s1.freeze
  have s3 := StA.back s2 (List.getElem?_eq_some_iff.mp (getS_some e)).1 e1
  exact k σ H _ F' R N D' s3 f (z.mono hF) (x.mono hF)
/-- what is known of the contents of the slots may be weakened: the name is forgotten -/
def sFo (i : Nat) (f : SF) : SF := fun N env => f N (clrS env i)
theorem db_fo {body : List Stmt} {f : SF} (i : Nat) (h : DB X W body f) : DB X W body (sFo i f) := by
  obtain ⟨t, p, k⟩ := h.ex
  exact ⟨t, p, fun σ H env F R N D' s f z x => k σ H _ F R N D' (s.forget i) f z x⟩
theorem dt_chainP {op op' : CmpOp} (ho : OpD X (compareOp op) r) (ho' : OpD X (compareOp op') r2) (ha : DP X a ga) (hb : DP X b gb) (hc : DP X c gc)
    (hm : lastMarks [op, op'] [b, c] = false := by with_unfolding_all rfl) : DT X W (.Compare a [op, op'] [b, c] pos) (bCh r r2 ga gb gc) := by
  obtain ⟨r', o, kr⟩ := ho.ex
  obtain ⟨r2', o', kr2⟩ := ho'.ex
  obtain ⟨ta, pa, ka⟩ := ha.ex
  obtain ⟨tb, pb, kb⟩ := hb.ex
  obtain ⟨tc, pc, kc⟩ := hc.ex
  refine ⟨_, pt_chain o o' pa pb pc hm, fun σ H env F R Q E Q' s f q _ => ?_⟩
  refine ka σ H env F R _ _ s f fun u du A H1 F1 g1 ra f1 => ?_
  refine kb σ H1 env F1 R _ _ (s.gr g1) f1 fun w dw B H2 F2 g2 rb f2 => ?_
  refine kr F2 H2 u w du dw A B _ _ g2.s (ra.mono g2.f g2.h) rb f2 fun z d A' H3 F3 g3 rz nz fz qz => ?_
  obtain ⟨k, rfl, qz⟩ := onB_some qz
  obtain ⟨rfl, rfl⟩ := rz.bl_inv
  refine ⟨k, rfl, ?_⟩
  have s3 := s.gr ((g1.trans g2).trans g3)
  cases k with
  | false =>
    obtain ⟨k', e, qz⟩ := onB_some qz
    cases e
    exact ⟨false, rfl, q false env H3 F3 ((g1.trans g2).trans g3).f s3 qz⟩
  | true =>
    refine kc σ H3 env F3 R _ _ s3 qz fun w' dw' C H4 F4 g4 rc f4 => ?_
    refine kr2 F4 H4 w w' dw dw' B C _ _ g4.s (rb.mono (g3.trans g4).f (g3.trans g4).h) rc f4 fun z d A' H' F' g' rz nz fz qz => ?_
    obtain ⟨k', rfl, qz⟩ := onB_some qz
    obtain ⟨rfl, rfl⟩ := rz.bl_inv
    exact ⟨k', rfl, q k' env H' F' (((g1.trans g2).trans g3).trans (g4.trans g')).f ((s3.gr g4).gr g') qz⟩
end
end Mf
set_option Elab.async false
set_option linter.all false
set_option maxHeartbeats 1000000
/-! name = [.. for ..] -/
namespace Mf
open PySem PySem.Spec PyProof.Rows L2
/-- name = e, the thing frozen or not -/
def sSetX (frz : Bool) (i : Nat) (fe : DF) : SF := fun N env => fe env (fun d e1 => i < e1.sl.length ∧ N.nx (setS e1 i (if frz = true then fz d else d))) N.ex
section
variable {X : Cx} {W : WX} {e : Expr} {pos : Pos}
theorem setX_go {t : TE} {fe : DF} (k : KE X W fe t) {frz : Bool} {i : Nat} (σ : L2.St) (H : Hp) (env : En) (F : Hp) (R : Rs) (N : DN) (D' : Ends) (s : StA (tx X) F H σ env [] R) (f : sSetX frz i fe N env) (z : EnK X F R N D') (x : ExK X W F R N.ex) : tAsg t (gName i) D' σ H := by
  refine k σ H env F R _ _ _ s f (fun v d e1 H1 F1 s1 st1 q1 => ?_) x
  cases frz with
  | false => exact z.nx _ _ H1 F1 s1 (st1.put q1.1) q1.2
  | true =>
    obtain ⟨F2, s2, st2⟩ := st1.freeze
    exact z.nx _ _ H1 F2 (s1.trans s2) (st2.put q1.1) q1.2
theorem ds_setLc {frz : Bool} {i : Nat} {y : Str} {py : Pos} {tg iter : Expr} {ifs : List Expr} {scope : Scope} {own : List (Str × Nat)} {spos : Pos} {fi : IF} {g : GF} {ft : BF} {fe : DF} {ws : List Nat} (hc : X.calm = true) (hN : X.N.Nodup) (hy : X.N[i]? = some y) (hyl : X.env.scope.names.lookup y = some .local)
    (hsw : swapsWith (.ListComp e [⟨tg, iter, ifs, 0⟩] scope pos) (some (.Name y py)) spos.line X.env = pure true) (hi : DI X W tg iter fi) (ok : BlkOk X.N X.env.scope scope own)
    (hw : ∀ i ∈ ws, i ∈ own.map (·.2))
    (hg : ∀ z : BlkIx, DG (Cx.bl X scope z) ws tg g) (ht : ∀ z : BlkIx, DTs (Cx.bl X scope z) WN ifs ft) (he : ∀ z : BlkIx, DE (Cx.bl X scope z) WN e fe)
    (hs : ∀ x, foldedSetIterable iter X.env x = pure x := by intro _; rfl) : DS X W (.Assign [.Name y py] (.ListComp e [⟨tg, iter, ifs, 0⟩] scope pos) spos) (sSetX frz i (dLc (own.map (·.2)) fi g ft fe)) := by
  obtain ⟨wi, p, k⟩ := hi.ex
  obtain ⟨G, pg, kg⟩ := dg_all hg
  obtain ⟨TT', pt, kt⟩ := dt_all ht
  obtain ⟨TE', pe', ke⟩ := de_all he
  have P := ps_setLc (pos := pos) hc hN hy hyl hsw p ok pg pt pe' hs
  revert hw P
  generalize own.map (·.2) = vs
  intro hw P
  refine ⟨_, P, setX_go fun σ H env F R Q E Q' s f q x => ?_⟩
  refine k σ H env F R _ E _ s f (fun J ds e1 H1 F1 s1 st1 gv q1 => ?_) x
  intro Dd hD
  have base : StA (tx X) F1 (upd H1 Dd (.lst [])) σ (wipeE e1 vs) [] ((.ref Dd, .lst .own []) :: R) := (StA.wipe st1 vs).lift fun Z h => Abs.newL (vs := []) (ds := []) h rfl hD
  exact lc_run hw kg kt ke gv base (wipeE_wipeE _ _) q1 fun acc env F' H' s' st' q' => q _ _ env H' F' (s1.trans s') st' q'
end
end Mf
set_option Elab.async false
set_option linter.all false
/-! What the printed derivations lean on. -/
namespace Mf
open PySem PySem.Spec PyProof.Rows L2
def bltNames : List Str := ["len", "abs", "int", "tuple", "list", "sum", "any", "all", "isinstance", "repr", "sorted", "min", "max", "range", "enumerate", "bool", "str", "dict", "set", "zip"]
structure Blt (mg : Str → Option Value) : Prop where
  all : ∀ x ∈ bltNames, mg x = none
theorem Blt.g {mg : Str → Option Value} (B : Blt mg) (x : Str) (h : x ∈ bltNames := by decide +kernel) : mg x = none := B.all x h
theorem ru {k : Nat} {A : Around} (r : Room k A) : A.units + 100 < cLine := by
  have := r.un
  omega
theorem boot_len : bootBuiltins "len" = some (.builtin "len") := by decide +kernel
theorem boot_abs : bootBuiltins "abs" = some (.builtin "abs") := by decide +kernel
theorem boot_sum : bootBuiltins "sum" = some (.builtin "sum") := by decide +kernel
theorem boot_any : bootBuiltins "any" = some (.builtin "any") := by decide +kernel
theorem boot_all : bootBuiltins "all" = some (.builtin "all") := by decide +kernel
theorem boot_isinstance : bootBuiltins "isinstance" = some (.builtin "isinstance") := by decide +kernel
theorem boot_repr : bootBuiltins "repr" = some (.builtin "repr") := by decide +kernel
theorem boot_sorted : bootBuiltins "sorted" = some (.builtin "sorted") := by decide +kernel
theorem boot_min : bootBuiltins "min" = some (.builtin "min") := by decide +kernel
theorem boot_max : bootBuiltins "max" = some (.builtin "max") := by decide +kernel
theorem boot_int : bootBuiltins "int" = some (.type "int") := by decide +kernel
theorem boot_bool : bootBuiltins "bool" = some (.type "bool") := by decide +kernel
theorem boot_str : bootBuiltins "str" = some (.type "str") := by decide +kernel
theorem boot_list : bootBuiltins "list" = some (.type "list") := by decide +kernel
theorem boot_tuple : bootBuiltins "tuple" = some (.type "tuple") := by decide +kernel
theorem boot_set : bootBuiltins "set" = some (.type "set") := by decide +kernel
theorem boot_dict : bootBuiltins "dict" = some (.type "dict") := by decide +kernel
def bP (g : PF) : BF := fun env Q _ => g env fun z => onB z fun k => Q k env
end Mf
set_option Elab.async false
set_option linter.all false
set_option maxHeartbeats 1000000
/-! Instances: made, read, written. -/
namespace Mf
open PySem PySem.Spec PyProof.Rows L2

section
variable {X : Cx} {CX : CXT} {k : Nat} {f C : Addr} {fd : FuncData} {ps : List Str} {sp : Sp} {E : L2.St → XK} {x : Str} {p pos : Pos} {e : Expr} {es : List Expr} {t : TA}
theorem make_guards {A : Around} (C : Addr) (us : List Value) (kw : List (Str × Value)) (h : A.guards = some []) : (A.under (.builtin "type.__call__" ⟨.ref C :: us, kw⟩)).guards = some [] := by
  have e : (Code.builtin "type.__call__" ⟨.ref C :: us, kw⟩).guards = [] := by
    unfold Code.guards
    have : Code.isGuard (Code.builtin "type.__call__" ⟨.ref C :: us, kw⟩) = false := by rfl
    rw [this]; rfl
  unfold Around.under
  simp only [e, pushGuards, h]
theorem run_makeG {pins : List (Addr × Obj)} {σ : L2.St} {H : Hp} {s : Shared} {Q : VK} {us : List Value} {vs : List V} (M : L2.Mk X.K C f) (F : FnG X.prog X.w X.K X.mg X.base CX k f fd ps sp) (hgd : X.A.guards = some []) (hr : Room (k + 1) X.A) (hb : Binds X.K fd ps [])
    (hx : PassesAt CX X σ (E σ)) (I : Inv X pins σ H s) (r : Vals vs us)
    (h : ∀ x dx, H x = none → H dx = none → dx ≠ x → sp (.ref x :: vs) (upd (upd H dx (.own x)) x (.ins C dx [])) (fun v H2 => v = .non ∧ Q (.ref x) H2) (E σ)) :
    wpAny (model X.prog X.w) X.A (call (.ref C) us) (EP X pins σ Q) X.xe s := by
  have goal := h (s.heap.objs.size + 1) s.heap.objs.size (I.hok.fresh (Nat.le_succ _)) (I.hok.fresh (Nat.le_refl _)) (Nat.ne_of_lt (Nat.lt_succ_self _))
  have J := Inv.made (C := C) I
  have rr : Vals (V.ref (s.heap.objs.size + 1) :: vs) (Value.ref (s.heap.objs.size + 1) :: us) := .cons rfl r
  have lens : (Value.ref (s.heap.objs.size + 1) :: us).length = ps.length := rr.length.symm.trans (F.len _ _ _ _ goal)
  have b := hb _ (Value.ref (s.heap.objs.size + 1) :: us) J.kIn (by simpa using lens)
  rw [List.append_nil] at b
  have ran := F.run _ X.stack _ _ ⟨Value.ref (s.heap.objs.size + 1) :: us, []⟩ _ _ _ (E σ) (make_guards C us [] hgd) (hr.make C us []) (J.env0.make C us []) b rr goal
  apply wpAny_call
  apply make_map (f := f) I.kIn M.makes M.init (beq_iff_eq.mp M.fn)
  apply codeAny_mono ran
  intro r s' hq
  cases r with
  | error e => exact hx pins _ _ e s' J hq
  | ok fl =>
    cases fl with
    | ret u =>
      obtain ⟨v, H', J2, rv, ev, q⟩ := J.after hq
      subst ev
      exact ⟨rv, ⟨V.ref (s.heap.objs.size + 1), H', J2, rfl, q⟩⟩
    | next => exact hq.elim
    | brk => exact hq.elim
    | cont => exact hq.elim
def tMakeG (C : Addr) (sp : Sp) (E : L2.St → XK) (t : TA) : TE := fun σ H Q => t σ H fun vs H1 => ∀ x dx, H1 x = none → H1 dx = none → dx ≠ x →
  sp (.ref x :: vs) (upd (upd H1 dx (.own x)) x (.ins C dx [])) (fun v H2 => v = .non ∧ Q (.ref x) H2) (E σ)
theorem pe_makeG (M : L2.Mk X.K C f) (F : FnG X.prog X.w X.K X.mg X.base CX k f fd ps sp) (hgd : X.A.guards = some []) (hr : Room (k + 1) X.A) (hg : Gl X x) (hm : X.mg x = some (.ref C)) (hb : Binds X.K fd ps []) (hx : ∀ σ, PassesAt CX X σ (E σ))
    (ha : PA X (e :: es) t) (hdb : (x == ("__debug__" : Str)) = false := by decide) (he : starEach (e :: es) X.env = (false, eval e X.env) :: starEach es X.env := by rfl) (hpl : (backTo pos (starEach es X.env)).any (·.1) = false := by rfl) :
    PE X (.Call (.Name x p) (e :: es) [] pos) (tMakeG C sp E t) := by
  constructor
  intro pins s σ H Q I h
  apply wpAny_Call_Name_kw (ld_glob I hg hm ?_ hdb)
  have goes := thn (ha.run pos pins s σ H _ I h) fun us s1 ⟨vs, H1, I1, r, q⟩ => (⟨I1.kIn, run_makeG M F hgd hr hb (hx σ) I1 r q⟩ : X.K.In s1.heap ∧ _)
  exact PySem.W.callWith_K (h₀ := X.base) I.ok.mod.kin M.kp goes he hpl
end

/-- a class of instances: made by its __init__ (self a pointer into the store), its fields fl -/
structure ClD (P : Program) (w : World) (K : PySem.W.Frag) (mg : Str → Option Value) (base : Heap) (c : Str) (fl : List Str) : Prop where
  ex : ∃ C, mg c = some (.ref C) ∧ Cls K C ∧ ∀ f ∈ fl, NoAttr K C f
structure MkD (P : Program) (w : World) (K : PySem.W.Frag) (mg : Str → Option Value) (base : Heap) (k : Nat) (c : Str) (n : Nat) (d : DSp) : Prop where
  len : ∀ ds st Q E, d ds st Q E → ds.length = n + 1
  ex : ∃ C f fd ps, ps.length = n + 1 ∧ mg c = some (.ref C) ∧ L2.Mk K C f ∧ FnG P w K mg base (L2.CX P w) k f fd ps (toSp ⟨K, mg⟩ (n + 1) d) ∧ Binds K fd ps []
/-- c(..) -/
def dMake (c : Str) (d : DSp) (fr : AF) : DF := fun env Q E => fr env (fun ds e1 => ∀ a, d (.ptr a :: ds) ((a, .ins .own c []) :: e1.st)
  (fun r st' => r = .non ∧ onO (getSt st' a) fun i => Q i { e1 with st := dropSt st' a }) (fun x st' => E x { e1 with st := st' })) E
section
variable {X : Cx} {W : WX} {k n : Nat} {c f : Str} {d : DSp} {p pos : Pos} {e : Expr} {es : List Expr} {fr : AF} {fl : List Str} {ga : PF}
theorem de_make (M : MkD X.prog X.w X.K X.mg X.base k c n d) (hgd : X.A.guards = some []) (hr : Room (k + 1) X.A) (hg : Gl X c) (ps : Pss X W) (ha : DA X W (e :: es) fr) (hdb : (c == ("__debug__" : Str)) = false := by decide)
    (he : starEach (e :: es) X.env = (false, eval e X.env) :: starEach es X.env := by rfl) (hpl : (backTo pos (starEach es X.env)).any (·.1) = false := by rfl) : DE X W (.Call (.Name c p) (e :: es) [] pos) (dMake c d fr) := by
  obtain ⟨len, C, fi, fd, pl, en, hm, M, F, hb⟩ := M
  obtain ⟨t, pa, ka⟩ := ha.ex
  refine ⟨_, pe_makeG (E := WE W) M F hgd hr hg hm hb ps pa hdb he hpl, fun σ H env F R Q E Q' s f q xk => ?_⟩
  refine ka σ H env F R _ E _ s f (fun vs ds e1 H1 F1 s1 l1 st1 f1 => ?_) xk
  intro a dx na nd ne
  have hH : Same H1 (upd H1 dx (.own a)) := same_new nd
  have na' : upd H1 dx (.own a) a = none := by rw [upd_ne ne.symm]; exact na
  have g1 : Gr F1 H1 F1 (upd (upd H1 dx (.own a)) a (.ins C dx [])) := (Gr.ext st1.same hH).trans (Gr.new (st1.same.trans hH) na')
  have st2 : StA (tx X) F1 (upd (upd H1 dx (.own a)) a (.ins C dx [])) σ e1 [] ((.ref a, .ins .own c []) :: (vs.zip ds ++ R)) :=
    st1.add g1 (B := [a]) (.insO hm upd_same rfl .nil) (by simp) fun b m => by
      have e : b = a := by simpa using m
      subst e
      exact ⟨Same.free st1.same na, na⟩
  obtain ⟨rs, sl, ab⟩ := st2
  have sp := f1 a
  refine ⟨?_, F1, .ptr a :: ds, (a, .ins .own c []) :: e1.st, rs ++ R, _, _, by simp [l1], (ab.perm ?_).push (.ptr a), sp, fun v d' st' H' F' s' ab' q' => ?_, fun cls dd x' st' H' F' s' ab' rx q' => ?_⟩
  · have := len _ _ _ _ sp
    simp only [List.length_cons] at this ⊢
    omega
  · -- the resources in the order that the callee wants
    show (rs ++ (stR e1.st ++ (V.ref a, D.ins .own c []) :: (vs.zip ds ++ R))).Perm (vs.zip ds ++ ((V.ref a, D.ins .own c []) :: stR e1.st ++ (rs ++ R)))
    have q0 : (rs ++ (stR e1.st ++ (V.ref a, D.ins .own c []) :: (vs.zip ds ++ R))).Perm ((stR e1.st ++ (V.ref a, D.ins .own c []) :: (vs.zip ds ++ R)) ++ rs) := List.perm_append_comm
    refine q0.trans ?_
    have q1 : (stR e1.st ++ (V.ref a, D.ins .own c []) :: (vs.zip ds ++ R)).Perm ((V.ref a, D.ins .own c []) :: (stR e1.st ++ (vs.zip ds ++ R))) := List.perm_middle
    refine (q1.append_right rs).trans ?_
    have q2 : (vs.zip ds ++ ((V.ref a, D.ins .own c []) :: stR e1.st ++ (rs ++ R))).Perm ((V.ref a, D.ins .own c []) :: (vs.zip ds ++ (stR e1.st ++ (rs ++ R)))) := List.perm_middle
    refine List.Perm.trans ?_ q2.symm
    refine List.Perm.cons _ ?_
    show ((stR e1.st ++ (vs.zip ds ++ R)) ++ rs).Perm (vs.zip ds ++ (stR e1.st ++ (rs ++ R)))
    have l1 : (stR e1.st ++ (vs.zip ds ++ R)) ++ rs = (stR e1.st ++ vs.zip ds) ++ (R ++ rs) := by simp
    have l2 : vs.zip ds ++ (stR e1.st ++ (rs ++ R)) = (vs.zip ds ++ stR e1.st) ++ (rs ++ R) := by simp
    rw [l1, l2]
    exact List.perm_append_comm.append List.perm_append_comm
  · obtain ⟨hn, q'⟩ := q'
    subst hn
    obtain ⟨A, r⟩ := ab'.head
    cases r
    obtain ⟨i, ei, q'⟩ := onO_some q'
    refine ⟨rfl, q (.ref a) i { e1 with st := dropSt st' a } H' F' (s1.trans s') ⟨rs, sl, (ab'.tail).perm ?_⟩ q'⟩
    refine ((stR_take ei).append_right _).trans ?_
    show ((V.ref a, i) :: (stR (dropSt st' a) ++ (rs ++ R))).Perm (rs ++ (stR (dropSt st' a) ++ (V.ref a, i) :: R))
    refine List.Perm.trans ?_ ((List.Perm.append_left rs List.perm_middle).trans List.perm_middle).symm
    refine List.Perm.cons _ ?_
    rw [← List.append_assoc, ← List.append_assoc]
    exact List.perm_append_comm.append_right _
  · refine xk cls dd x' σ { e1 with st := st' } H' F' (s1.trans s') ⟨rs, sl, ab'.perm ?_⟩ rx q'
    rw [← List.append_assoc, ← List.append_assoc]
    exact List.perm_append_comm.append_right _
/-- e.f of an instance of c -/
def pFld (c f : Str) (ga : PF) : PF := fun env Q => ga env fun d => match d with
  | .ins _ c' fs => c' = c ∧ onO (fs.lookup f) Q
  | _ => False
theorem dp_fld (hC : ClD X.prog X.w X.K X.mg X.base c fl) (hf : f ∈ fl) (ha : DP X e ga) (hb : attributeBase e f X.env (eval e X.env) = eval e X.env := by rfl) : DP X (.Attribute e f pos) (pFld c f ga) := by
  obtain ⟨C0, hm, cl, no⟩ := hC.ex
  obtain ⟨t, pa, k⟩ := ha.ex
  refine ⟨_, pe_fld pa hb, fun σ H env F R Q Q' s f0 q => ?_⟩
  refine k σ H env F R _ _ s f0 fun v d A H1 F1 g1 r f1 => ?_
  cases d with
  | ins m c' fs =>
    obtain ⟨e1, f1⟩ := f1
    obtain ⟨w, el, qq⟩ := onO_some f1
    cases r with
    | @insO a _ C' dx vs _ A1 hm' ha' hk rr =>
      have ec : C' = C0 := by
        rw [show (tx X).mg = X.mg from rfl, e1, hm] at hm'
        cases hm'; rfl
      subst ec
      obtain ⟨u, B, lu, ru⟩ := lookup_ros hk rr el
      exact ⟨a, _, dx, vs, u, rfl, ha', cl, no _ hf, lu, q u w B H1 F1 g1 ru qq⟩
    | @insF a _ C' dx vs _ _ hmf hm' ha' hk rr =>
      have ec : C' = C0 := by
        rw [show (tx X).mg = X.mg from rfl, e1, hm] at hm'
        cases hm'; rfl
      subst ec
      obtain ⟨u, B, lu, ru⟩ := lookup_ros hk rr el
      exact ⟨a, _, dx, vs, u, rfl, g1.s _ _ ha', cl, no _ hf, lu, q u w B H1 F1 g1 ru qq⟩
  | _ => exact f1.elim
/-- o.f = e, f a new field of an owned instance of c -/
def sFldS (c f : Str) (q : QF) (fe : DF) : SF := fun N env => fe env (fun d e1 => q e1 fun dx put => match dx with
  | .ins .own c' fs => c' = c ∧ fs.length < 1000 ∧ f ∉ fs.map (·.1) ∧ N.nx (put (.ins .own c' (fs ++ [(f, d)])))
  | _ => False) N.ex
theorem putF_new {f : Str} {v : V} : ∀ {fs : List (Str × V)}, f ∉ fs.map (·.1) → putF f v fs = fs ++ [(f, v)]
  | [], _ => rfl
  | (g, x) :: r, h => by
    rw [List.map_cons, List.mem_cons, not_or] at h
    rw [putF, if_neg (fun e => h.1 e.symm), putF_new h.2]; rfl
theorem Abs.ownI {T : Tx} {F H : Hp} {L : List Addr} {rs : Rs} {x : V} {c : Str} {ds : List (Str × D)} (h : Abs T F H L ((x, .ins .own c ds) :: rs)) :
    ∃ a C dx gs, x = .ref a ∧ T.mg c = some (.ref C) ∧ H a = some (.ins C dx gs) ∧ gs.map (·.1) = ds.map (·.1) ∧ Abs T F H (a :: L) ((gs.map (·.2)).zip (ds.map (·.2)) ++ rs) := by
  obtain ⟨A, r⟩ := h.head
  cases r with
  | insF m _ _ _ _ => exact m.elim
  | @insO a _ C dx gs _ A1 hc ha k r =>
    obtain ⟨C, dx, gs, e1, e2, e3, h'⟩ := h.openI
    exact ⟨a, C, dx, gs, rfl, e1, e2, e3, h'⟩
theorem ds_fld {o v : Expr} {q : QF} {fe : DF} {pos' : Pos} (hC : ClD X.prog X.w X.K X.mg X.base c fl) (hf : f ∈ fl) (hq : DQ X o q) (hv : DE X W v fe) (hs : swapsWith v (some (.Attribute o f pos')) pos.line X.env = pure false := by rfl) : DS X W (.Assign [.Attribute o f pos'] v pos) (sFldS c f q fe) := by
  obtain ⟨C0, hm, cl, no⟩ := hC.ex
  obtain ⟨to, po, ko⟩ := hq.ex
  obtain ⟨t, pv, k⟩ := hv.ex
  refine ⟨_, ps_fld po pv hs, fun σ H env F R N D' s f0 z x => ?_⟩
  refine k σ H env F R _ _ _ s f0 (fun v d e1 H1 F1 s1 st1 f1 => ?_) x
  refine ko σ H1 e1 F1 ((v, d) :: R) _ _ st1 f1 fun y dx put F2 H2 g2 op f2 => ?_
  match dx, f2 with
  | .ins .own c' fs, f2 =>
    obtain ⟨ec, lz, nf, f2⟩ := f2
    obtain ⟨eO, L, R0, st, cl'⟩ := op F2 H2 (Gr.refl g2.s)
    obtain ⟨rs', sl, ab⟩ := st
    have pq : (rs' ++ (stR eO.st ++ ((y, D.ins .own c' fs) :: (R0 ++ (v, d) :: R)))).Perm ((y, D.ins .own c' fs) :: (v, d) :: (R0 ++ R ++ (rs' ++ stR eO.st))) := by
      rw [← List.append_assoc]
      refine List.perm_middle.trans (List.Perm.cons _ ?_)
      refine List.perm_append_comm.trans ?_
      exact List.Perm.append_right (rs' ++ stR eO.st) (List.perm_middle (l₁ := R0) (l₂ := R) (a := (v, d)))
    obtain ⟨a, C', dx, gs, rfl, hm', ha, hk, h1⟩ := (ab.perm pq).ownI
    have ecc : C' = C0 := by
      rw [show (tx X).mg = X.mg from rfl, ec, hm] at hm'
      cases hm'; rfl
    subst ecc
    have lg : gs.length = fs.length := by simpa using congrArg List.length hk
    have ng : f ∉ gs.map (·.1) := by rw [hk]; exact nf
    refine ⟨a, _, dx, gs, rfl, ha, cl, no _ hf, by omega, ?_⟩
    rw [putF_new ng]
    have h2 : Abs (tx X) F2 H2 (a :: L) (((gs ++ [(f, v)]).map (·.2)).zip ((fs ++ [(f, d)]).map (·.2)) ++ (R0 ++ R ++ (rs' ++ stR eO.st))) := by
      rw [List.map_append, List.map_append, List.zip_append (by simpa using lg), List.append_assoc]
      exact h1
    have h3 := Abs.closeI (c := c') (h2.write (o := .ins C' dx (gs ++ [(f, v)]))) hm' upd_same (by rw [List.map_append, List.map_append, hk]; rfl)
    refine z.nx σ (put (.ins .own c' (fs ++ [(f, d)]))) _ F2 (s1.trans g2.f) (cl' F2 _ _ R (Same.refl _) (fun b m => res_keep h1 m) ⟨rs', sl, h3.perm ?_⟩) f2
    refine List.Perm.trans ?_ (List.perm_append_comm (l₁ := (V.ref a, D.ins .own c' (fs ++ [(f, d)])) :: (R0 ++ R)) (l₂ := rs' ++ stR eO.st) |>.trans (by rw [List.append_assoc]))
    exact .refl _
end
end Mf
set_option Elab.async false
set_option linter.all false
set_option maxRecDepth 100000
set_option maxHeartbeats 1000000
/-! sorted(set(xs)), xs a list of tuples of ints. -/
namespace Mf
open PySem PySem.Spec PyProof.Rows L2

abbrev encT (p : Addr × List Int) : PyData := .tuple (p.2.map .int)
theorem ints_readsAll {h : Heap} : ∀ {ns : List Int} {vs : List Value}, IntsAre vs ns → ReadsAll h vs (ns.map .int) []
  | _, _, .nil => .nil
  | _, _, .cons n t r => .cons (as := []) (bs := []) (.int n t) (ints_readsAll r)
section
variable {P : Program} {w : World} {A : Around} {E : Value → Shared → Prop} {s : Shared}
theorem reads_isT {h : Heap} {k : List Int} {b : Addr} (x : IsT P w h k b) : Reads h (.ref b) (.tuple (k.map .int)) [] := by
  obtain ⟨b', items, e, ⟨o, ho, hc, n, hd⟩, hi⟩ := tupInts_of x
  cases e
  exact .tuple ho hc hd (ints_readsAll hi)
theorem each_refs {R : Value → Addr × List Int → Prop} : ∀ {L : List (Addr × List Int)}, (∀ p ∈ L, R (.ref p.1) p) → PySem.W.EachIs R (L.map fun p => Value.ref p.1) L
  | [], _ => .nil
  | p :: L, h => .cons (h p (by simp)) (each_refs fun q m => h q (List.mem_cons_of_mem _ m))
theorem sorted_setD {a : Addr} {L : List (Addr × List Int)} {es : Array (Int × Value)} {ep : Nat} {t : SetTable} {Q : Value → Shared → Prop} (R : SetTR P w s.heap a L es ep t) (hh : A.handled = none) (hne : ∀ p ∈ L, p.2 ≠ []) (hu : A.units + 10 < cLine)
    (hQ : ∀ s' p (out : List Value) (c : Nat) (L1 : List (Addr × List Int)), (∀ b o, s.heap.get? b = some o → s'.heap.get? b = some o) → s'.gens = s.gens → s'.os = s.os → s.heap.objs.size ≤ p →
      s'.heap.get? p = some (seqObj "list" out.toArray c) → L1.Perm L → PySem.W.EachIs (fun v q => v = Value.ref q.1) out (L1.mergeSort (PySem.W.dataLe false encT)) → Q (.ref p) s') :
    wpAny (model P w) A (call (.builtin "sorted") [.ref a]) Q E s := by
  obtain ⟨o, ho, hex, hd⟩ := R.ob
  have hsz := R.size
  have hfew := R.few
  refine Calls.call_function_entry kind_sorted plain_sorted entry_sorted (args_sorted1 _) ?_
  unfold Builtin.«sorted»
  refine wpAny_bind (m := checkCount "sorted" 1 1 _) (wpAny_pure ?_)
  refine wpAny_bind (collect_set (A := A.in1) hh ⟨o, ho, hex.1, hd⟩ R.fits (by unfold scanBound; omega) R.tab.ris R.led fun s1 vs k1 hz g1 o1 pm => ?_)
  have hes : es.toList.map (·.2) = L.map fun q => Value.ref q.1 := by
    rw [R.rows]
    unfold rowsOf
    rw [List.map_map] <;> rfl
  rw [hes] at pm
  obtain ⟨L1, ev, p1⟩ : ∃ L1 : List (Addr × List Int), vs = L1.map (fun q => Value.ref q.1) ∧ L1.Perm L := by
    have key : ∀ (us vs : List Value), vs.Perm us → ∀ L : List (Addr × List Int), us = L.map (fun q => Value.ref q.1) → ∃ L1 : List (Addr × List Int), vs = L1.map (fun q => Value.ref q.1) ∧ L1.Perm L := by
      intro us vs pm
      induction pm with
      | nil =>
        intro L e
        cases L with
        | nil => exact ⟨[], rfl, .refl _⟩
        | cons _ _ => simp at e
      | @cons x l1 l2 _ ih =>
        intro L e
        cases L with
        | nil => simp at e
        | cons q L =>
          simp only [List.map_cons, List.cons.injEq] at e
          obtain ⟨L1, e1, p1⟩ := ih L e.2
          exact ⟨q :: L1, by rw [e1, List.map_cons, e.1], p1.cons _⟩
      | @swap x y l =>
        intro L e
        match L, e with
        | q :: r :: L, e =>
          simp only [List.map_cons, List.cons.injEq] at e
          exact ⟨r :: q :: L, by rw [List.map_cons, List.map_cons, e.1, e.2.1, e.2.2], .swap ..⟩
      | @trans l1 l2 l3 _ _ ih1 ih2 =>
        intro L e
        obtain ⟨L2, e2, p2⟩ := ih2 L e
        obtain ⟨L1, e1, p1⟩ := ih1 L2 e2
        exact ⟨L1, e1, p1.trans p2⟩
    exact key _ _ pm L rfl
  subst ev
  have l1 : L1.length = L.length := p1.length_eq
  refine wpAny_bind (wpAny_newList ?_ (by rw [List.length_map, sizeLine_eq]; omega))
  have hoL : (s1.heap.push (seqObj "list" (L1.map fun q => Value.ref q.1).toArray 0)).get? s1.heap.objs.size = some (seqObj "list" (L1.map fun q => Value.ref q.1).toArray 0) := Heap.get?_push_size _ rfl
  have rd : ∀ q ∈ L1, Reads (s1.heap.push (seqObj "list" (L1.map fun q => Value.ref q.1).toArray 0)) (.ref q.1) (encT q) [] := fun q hq =>
    reads_isT (P := P) (w := w) (isT_keep (R.tup q (p1.mem_iff.mp hq)) fun b u e => Heap.get?_push_of_some _ (k1 b u e))
  refine wpAny_bind (wpAny_holding (PySem.W.list_sort_data (s := { s1 with heap := s1.heap.push (seqObj "list" (L1.map fun q => Value.ref q.1).toArray 0) }) (enc := encT) (R := fun v q => v = Value.ref q.1) hoL (each_refs fun q _ => rfl)
    (each_refs fun q hq => ⟨[], rd q hq, List.not_mem_nil⟩) (fun d hd d' hd' => ?_) (.inl fun d hd => ?_) (by rw [sizeLine_eq]; omega) (fun b hb => ?_) fun out hl ho2 => ?_))
  · obtain ⟨q, _, rfl⟩ := List.mem_map.mp hd
    obtain ⟨r, _, rfl⟩ := List.mem_map.mp hd'
    exact PySem.W.alike_ints q.2 r.2
  · obtain ⟨q, hq, rfl⟩ := List.mem_map.mp hd
    have := hne q (p1.mem_iff.mp hq)
    cases e : q.2 with
    | nil => exact absurd e this
    | cons n r => exact ⟨.int n, r.map .int, by show PyData.tuple (q.2.map .int) = _; rw [e]; rfl⟩
  · have e : (encT b).depth = PyData.depthAll (b.2.map .int) + 1 := by
      show (PyData.tuple (b.2.map .int)).depth = _
      rw [PyData.depth]
    rw [e, PySem.W.depth_ints]
    show A.units + 1 + 1 + (0 + 1) < cLine
    omega
  · obtain ⟨c, hc⟩ := sortedHeap_at (vs := L1.map fun q => Value.ref q.1) (out := out.toArray) hoL
    refine wpAny_pure ⟨_, rfl, hQ _ s1.heap.objs.size out c L1 (fun b u e => ?_) g1 o1 hz hc p1 ho2⟩
    have q := k1 b u e
    have hlt := Heap.lt_size q
    show (sortedHeap (s1.heap.push (seqObj "list" (L1.map fun q => Value.ref q.1).toArray 0)) s1.heap.objs.size (L1.map fun q => Value.ref q.1) out.toArray).get? b = some u
    rw [sortedHeap_old (Nat.ne_of_lt hlt) (by rw [size_push']; exact Nat.lt_succ_of_lt hlt)]
    exact Heap.get?_push_of_some _ q
end

section
variable {X : Cx} {W : WX}
/-- sorted(a set of tuples of ints, none of them empty) -/
def rSSD (K : PySem.W.Frag) (P : Program) (w : World) : List V → Hp → VK → Prop := fun vs H Q => ∃ (a : Addr) (L : List (Addr × List Int)), vs = [V.ref a] ∧ H a = some (SetTO P w a L) ∧ (∀ p ∈ L, SqT K H p.1 (p.2.map V.int)) ∧ (∀ p ∈ L, p.2 ≠ []) ∧
  ∀ (L1 : List (Addr × List Int)) (p : Addr), L1.Perm L → (L1.map (·.2)).Nodup → H p = none → Q (.ref p) (upd H p (.lst ((L1.mergeSort (PySem.W.dataLe false encT)).map fun q => V.ref q.1)))
theorem vals_each : ∀ {out : List Value} {L : List (Addr × List Int)}, PySem.W.EachIs (fun v q => v = Value.ref q.1) out L → Vals (L.map fun q => V.ref q.1) out
  | _, _, .nil => .nil
  | _, _, .cons h r => .cons h (vals_each r)
theorem cr_sortedSD (hc : X.calm = true) (hu : X.A.units + 100 < cLine) : CallR X (.builtin "sorted") (rSSD X.K X.prog X.w) := by
  intro pins s σ H vs us Q I r h
  obtain ⟨a, L, rfl, ha, hk, hne, q⟩ := h
  have R0 : SetT0 X.prog X.w s.heap a L := (I.hok a _ ha).1
  obtain ⟨es, ep, t, R⟩ := R0.full fun p hp => I.isT (hk p hp)
  rw [Vals.ref1 r]
  refine sorted_setD R (I.ok.hd hc) hne (by omega) fun s' p out c L1 k g o hp hg p1 eo => ?_
  have hfew : L1.length < 64 := by rw [p1.length_eq]; exact R.few
  have pm := List.mergeSort_perm L1 (PySem.W.dataLe false encT)
  revert eo pm
  generalize hL' : L1.mergeSort (PySem.W.dataLe false encT) = L'
  intro eo pm
  have hlen : (L'.map fun q => V.ref q.1).length ≤ sizeLine := by rw [List.length_map, pm.length_eq, sizeLine_eq]; omega
  have hn : H p = none := I.hok.fresh hp
  have J : Inv X pins σ (upd H p (.lst (L'.map fun q => V.ref q.1))) { s with heap := s'.heap, gens := s'.gens, drawn := s'.drawn, toks := s'.toks } :=
    I.call (ch := []) (Un.laid k hp hn) (I.hok.laid k hp ⟨hlen, out, c, vals_each eo, hg⟩) (by rw [g]; exact I.bare) (fun _ z => nomatch z)
  have e : s' = { s with heap := s'.heap, gens := s'.gens, drawn := s'.drawn, toks := s'.toks } := by
    cases s'
    cases s
    cases o
    rfl
  rw [e]
  have qq := q L1 p p1 ((p1.map (·.2)).nodup_iff.mpr R.nd) hn
  rw [hL'] at qq
  exact ⟨.ref p, _, J, rfl, qq⟩
/-! over trees -/
def tupI (ns : List Int) : D := .tup (ns.map D.int)
/-- the order that sorted follows, of rows of ints -/
def leI (a b : List Int) : Bool := PySem.W.dataLe false (fun ns : List Int => PyData.tuple (ns.map .int)) a b
theorem keys_of {T : Tx} {F H : Hp} : ∀ {nss : List (List Int)} {vs : List V} {A : List Addr}, ROs T F H vs (nss.map tupI) A → ∃ ks : List (Addr × List Int), vs = ks.map (fun p => V.ref p.1) ∧ ks.map (·.2) = nss ∧ ∀ p ∈ ks, F p.1 = some (.tup (p.2.map V.int))
  | [], _, _, r => by cases r; exact ⟨[], rfl, rfl, fun _ m => nomatch m⟩
  | ns :: nss, _, _, r => by
    cases r with
    | cons r1 r2 =>
      obtain ⟨ks, e1, e2, h⟩ := keys_of r2
      cases r1 with
      | @tup a vs _ _ ha rs =>
        obtain ⟨ev, _⟩ := rs.ints
        subst ev
        refine ⟨(a, ns) :: ks, by rw [e1]; rfl, by rw [← e2]; rfl, fun p m => ?_⟩
        rcases List.mem_cons.mp m with m | m
        · rw [m]; exact ha
        · exact h p m
theorem ros_keys {T : Tx} {F H : Hp} : ∀ {ks : List (Addr × List Int)}, (∀ p ∈ ks, F p.1 = some (.tup (p.2.map V.int))) → ROs T F H (ks.map fun p => V.ref p.1) (ks.map fun p => tupI p.2) []
  | [], _ => .nil
  | p :: ks, h => by
    have ri : ∀ ns : List Int, ROs T F H (ns.map V.int) (ns.map D.int) [] := fun ns => by
      induction ns with
      | nil => exact .nil
      | cons n r ih => exact .cons (A := []) (B := []) (.int n) ih
    exact .cons (A := []) (B := []) (.tup (h p (by simp)) (ri p.2)) (ros_keys fun q m => h q (List.mem_cons_of_mem _ m))
/-- sorted(set(xs)) -/
def nSortSet (ga : PF) : DF := fun env Q _ => ga env fun x => match x with
  | .lst _ xs => ∃ nss : List (List Int), xs = nss.map tupI ∧ nss.length < 64 ∧ (∀ ns ∈ nss, ns ≠ []) ∧ ∀ zs : List (List Int), zs.Nodup → (∀ z, z ∈ zs ↔ z ∈ nss) → Q (.lst .own ((zs.mergeSort leI).map tupI)) env
  | _ => False
theorem nowns_tupI : ∀ nss : List (List Int), nowns (nss.map tupI) = true
  | [] => rfl
  | ns :: r => by rw [List.map_cons, nowns, nowns_tupI r]; show (nowns (ns.map D.int) && true) = true; rw [nowns_ints]; rfl
theorem sortSet_core {σ : L2.St} {env : En} {R : Rs} {F1 H1 : Hp} {v : V} {m : Mk} {nss : List (List Int)} {A : List Addr} {Q : D → Prop} {Q' : VK} (s : StA (tx X) F1 H1 σ env [] R) (r : RO (tx X) F1 H1 v (.lst m (nss.map tupI)) A) (h64 : nss.length < 64) (hne : ∀ ns ∈ nss, ns ≠ [])
    (f1 : ∀ zs : List (List Int), zs.Nodup → (∀ z, z ∈ zs ↔ z ∈ nss) → Q (.lst .own ((zs.mergeSort leI).map tupI))) (q : ∀ v d H', StA (tx X) F1 H' σ env [] ((v, d) :: R) → Q d → Q' v H') :
    rSetOfT X.K X.prog X.w [v] H1 (fun x H2 => rSSD X.K X.prog X.w [x] H2 Q') := by
  obtain ⟨a, vs, rfl, ha', rs, l⟩ := r.lst_items s.same (nowns_tupI nss)
  obtain ⟨ks, rfl, rfl, hk⟩ := keys_of rs
  refine ⟨a, ks, rfl, SqL_of ha', fun p hp => SqT_of (s.same _ _ (hk p hp)), by simpa using h64, fun b L hb sub all => ?_⟩
  have sH : Same H1 (upd H1 b (SetTO X.prog X.w b L)) := same_new hb
  have g2 : Gr F1 H1 F1 (upd H1 b (SetTO X.prog X.w b L)) := Gr.ext s.same sH
  refine ⟨b, L, rfl, upd_same, fun p hp => SqT_of (sH _ _ (s.same _ _ (hk p (sub p hp)))), fun p hp => hne _ (List.mem_map.mpr ⟨p, sub p hp, rfl⟩), fun L1 c p1 nd hc' => ?_⟩
  have hkL : ∀ p ∈ L1, F1 p.1 = some (.tup (p.2.map V.int)) := fun p hp => hk p (sub p (p1.mem_iff.mp hp))
  have em : (L1.mergeSort (PySem.W.dataLe false encT)).map (·.2) = (L1.map (·.2)).mergeSort leI := List.map_mergeSort (r := PySem.W.dataLe false encT) (s := leI) (f := fun p : Addr × List Int => p.2) (l := L1) fun a _ b _ => rfl
  have pm := List.mergeSort_perm L1 (PySem.W.dataLe false encT)
  have rs2 : ROs (tx X) F1 (upd H1 b (SetTO X.prog X.w b L)) ((L1.mergeSort (PySem.W.dataLe false encT)).map fun q => V.ref q.1) (((L1.map (·.2)).mergeSort leI).map tupI) [] := by
    rw [← em, List.map_map]
    exact ros_keys fun p hp => hkL p (pm.mem_iff.mp hp)
  have g3 := Gr.new g2.s (o := .lst ((L1.mergeSort (PySem.W.dataLe false encT)).map fun q => V.ref q.1)) hc'
  refine q (.ref c) (.lst .own (((L1.map (·.2)).mergeSort leI).map tupI)) _ ?_ (f1 (L1.map (·.2)) nd fun z => ⟨fun m => ?_, fun m => ?_⟩)
  · refine ((s.gr g2).add g3 (B := [c]) (.lstO upd_same (rs2.free rfl)) (by simp) fun x m => ?_)
    have e : x = c := by simpa using m
    subst e
    exact ⟨Same.free g2.s hc', hc'⟩
  · obtain ⟨p, hp, rfl⟩ := List.mem_map.mp m
    exact List.mem_map.mpr ⟨p, sub p (p1.mem_iff.mp hp), rfl⟩
  · obtain ⟨p, hp, rfl⟩ := List.mem_map.mp m
    have := all p hp
    obtain ⟨p', hp', e⟩ := List.mem_map.mp this
    exact List.mem_map.mpr ⟨p', p1.mem_iff.mpr hp', e⟩
theorem de_sortSet {e : Expr} {ga : PF} {p1 p2 q1 q2 : Pos} (hc : X.calm = true) (hu : X.A.units + 100 < cLine) (ha : DP X e ga) (hg : Gl X "sorted") (hg2 : Gl X "set") (hm : X.mg "sorted" = none) (hm2 : X.mg "set" = none) (hv : bootBuiltins "sorted" = some (.builtin "sorted")) (hv2 : bootBuiltins "set" = some (.type "set"))
    (he : starEach [e] X.env = (false, eval e X.env) :: starEach [] X.env := by rfl) (he2 : starEach [.Call (.Name "set" p2) [e] [] q2] X.env = (false, eval (.Call (.Name "set" p2) [e] [] q2) X.env) :: starEach [] X.env := by rfl) :
    DE X W (.Call (.Name "sorted" p1) [.Call (.Name "set" p2) [e] [] q2] [] q1) (nSortSet ga) := by
  obtain ⟨t, pa, k⟩ := ha.ex
  refine ⟨_, pe_callB (cr_sortedSD hc hu) hg hm hv (pa_cons (pe_callTy (cr_setOfT hc (by omega)) hg2 hm2 hv2 (pa_cons pa pa_nil he) (by decide) (by decide) he rfl) pa_nil he2) (by decide) (by decide) he2 rfl, fun σ H env F R Q E Q' s f q _ => ?_⟩
  refine k σ H env F R _ _ s f fun v d A H1 F1 g1 r f1 => ?_
  cases d with
  | lst m xs =>
    obtain ⟨nss, rfl, h64, hne, f1⟩ := f1
    exact sortSet_core (Q := fun d => Q d env) (s.gr g1) r h64 hne f1 fun v d H' st qd => q v d env H' F1 g1.f st qd
  | _ => exact f1.elim
def dSortSet (fa : DF) : DF := fun env Q E => fa env (fun x e1 => match x with
  | .lst _ xs => ∃ nss : List (List Int), xs = nss.map tupI ∧ nss.length < 64 ∧ (∀ ns ∈ nss, ns ≠ []) ∧ ∀ zs : List (List Int), zs.Nodup → (∀ z, z ∈ zs ↔ z ∈ nss) → Q (.lst .own ((zs.mergeSort leI).map tupI)) e1
  | _ => False) E
theorem de_sortSetE {e : Expr} {fa : DF} {p1 p2 q1 q2 : Pos} (hc : X.calm = true) (hu : X.A.units + 100 < cLine) (ha : DE X W e fa) (hg : Gl X "sorted") (hg2 : Gl X "set") (hm : X.mg "sorted" = none) (hm2 : X.mg "set" = none) (hv : bootBuiltins "sorted" = some (.builtin "sorted")) (hv2 : bootBuiltins "set" = some (.type "set"))
    (he : starEach [e] X.env = (false, eval e X.env) :: starEach [] X.env := by rfl) (he2 : starEach [.Call (.Name "set" p2) [e] [] q2] X.env = (false, eval (.Call (.Name "set" p2) [e] [] q2) X.env) :: starEach [] X.env := by rfl) :
    DE X W (.Call (.Name "sorted" p1) [.Call (.Name "set" p2) [e] [] q2] [] q1) (dSortSet fa) := by
  obtain ⟨t, pa, k⟩ := ha.ex
  refine ⟨_, pe_callB (cr_sortedSD hc hu) hg hm hv (pa_cons (pe_callTy (cr_setOfT hc (by omega)) hg2 hm2 hv2 (pa_cons pa pa_nil he) (by decide) (by decide) he rfl) pa_nil he2) (by decide) (by decide) he2 rfl, fun σ H env F R Q E Q' s f q x => ?_⟩
  refine k σ H env F R _ E _ s f (fun v d e1 H1 F1 s1 st1 f1 => ?_) x
  cases d with
  | lst m xs =>
    obtain ⟨nss, rfl, h64, hne, f1⟩ := f1
    obtain ⟨A, r⟩ := st1.abs.head
    exact sortSet_core (Q := fun d => Q d e1) st1.tail r h64 hne f1 fun v d H' st qd => q v d e1 H' F1 s1 st qd
  | _ => exact f1.elim
end
end Mf
set_option Elab.async false
set_option linter.all false
set_option maxHeartbeats 1000000
/-! What is never reached; one-entry dicts; d.get; xs.index; max, min of a list. -/
namespace Mf
open PySem PySem.Spec PyProof.Rows L2
section
variable {X : Cx} {W : WX}
/-- never reached -/
def sDead : SF := fun _ _ => False
def dDead : DF := fun _ _ _ => False
def bDead : BF := fun _ _ _ => False
theorem ds_dead {st : Stmt} : DS X W st sDead := ⟨fun _ _ _ => False, ⟨fun _ _ _ _ _ _ h => h.elim⟩, fun _ _ _ _ _ _ _ _ f => f.elim⟩
theorem db_dead {st : List Stmt} : DB X W st sDead := ⟨fun _ _ _ => False, ⟨fun _ _ _ _ _ _ h => h.elim⟩, fun _ _ _ _ _ _ _ _ f => f.elim⟩
theorem de_dead {e : Expr} : DE X W e dDead := ⟨fun _ _ _ => False, ⟨fun _ _ _ _ _ _ h => h.elim⟩, fun _ _ _ _ _ _ _ _ _ f => f.elim⟩
theorem dt_dead {e : Expr} : DT X W e bDead := ⟨fun _ _ _ => False, ⟨fun _ _ _ _ _ _ h => h.elim⟩, fun _ _ _ _ _ _ _ _ _ f => f.elim⟩
/-! {k: v} -/
def dDisp1 (fk fv : DF) : DF := fun env Q E => fk env (fun kd e1 => fv e1 (fun d e2 => onO (keyD kd) fun k => Q (.dct .own [(k, d)]) e2) E) E
theorem de_disp1 {a b : Expr} {fk fv : DF} {pos : Pos} (ha : DE X W a fk) (hb : DE X W b fv) : DE X W (.Dict [some a] [b] pos) (dDisp1 fk fv) := by
  obtain ⟨ta, pa, ka⟩ := ha.ex
  obtain ⟨tb, pb, kb⟩ := hb.ex
  refine ⟨_, pe_disp (pps_cons pa pb pps_nil) rfl rfl (by simp) (by simp), fun σ H env F R Q E Q' s f q x => ?_⟩
  intro p hp
  have s0 := new_dct s hp
  refine ka σ _ env F ((.ref p, .dct .own []) :: R) _ E _ s0 f (fun u du e1 H1 F1 s1 st1 f1 => ?_) x.cons
  refine kb σ H1 e1 F1 _ _ E _ st1 f1 (fun w dw e2 H2 F2 s2 st2 f2 => ?_) ((x.mono s1).cons.cons)
  obtain ⟨k, ek, f2⟩ := onO_some f2
  obtain ⟨B, rb⟩ := st2.tail.abs.head
  have eu := rb.key ek
  subst eu
  have st3 : StA (tx X) F2 H2 σ e2 [] ((.ref p, .dct .own []) :: (w, dw) :: R) := (st2.lift fun Z h => by
    have h1 : Abs (tx X) F2 H2 [] ((kV k, du) :: (w, dw) :: (.ref p, .dct .own []) :: R ++ Z) := h.perm (.swap ..)
    exact h1.tail.perm (.swap ..))
  obtain ⟨z, hz, st4⟩ := StA.liftE (P := fun _ : Unit => H2 p = some (.dK [])) (FF := fun _ => F2) (HH := fun _ => upd H2 p (.dK [(k, w)])) (LL := fun _ => []) (G := fun _ => (.ref p, .dct .own [(k, dw)]) :: R) st3 fun Z h => by
    obtain ⟨a, kvs, e1, e2, e3, h'⟩ := Abs.ownK h
    cases e1
    have e4 : kvs = [] := by simpa using e3
    subst e4
    refine ⟨(), e2, ?_⟩
    exact Abs.closeK (kvs := [(k, w)]) (ds := [(k, dw)]) (Abs.write h') upd_same rfl
  exact ⟨hz, [(k, w)], rfl, by simp, q _ _ e2 _ F2 (s1.trans s2) st4 f2⟩
/-! d.get -/
def isDict : D → Bool
  | .dct _ _ => true
  | .dtt _ _ => true
  | _ => false
theorem isDict_ok {T : Tx} {F H : Hp} (hS : Same F H) {v : V} {d : D} {A : List Addr} (r : RO T F H v d A) (h : isDict d = true) : ∃ a, v = .ref a ∧ IsD H a := by
  cases r with
  | dctO e _ _ => exact ⟨_, rfl, .inl ⟨_, .inl e⟩⟩
  | dctF _ e _ _ => exact ⟨_, rfl, .inl ⟨_, .inl (hS _ _ e)⟩⟩
  | dttO e _ _ => exact ⟨_, rfl, .inr ⟨_, .inl e⟩⟩
  | dttF _ e _ _ => exact ⟨_, rfl, .inr ⟨_, .inl (hS _ _ e)⟩⟩
  | _ => simp [isDict] at h
def pGet2 (ga gb gc : PF) : PF := fun env Q => ga env fun x => isDict x = true ∧ gb env fun y => gc env fun z => onO (dGet x y) fun o => Q (o.getD z)
def pGet1 (ga gb : PF) : PF := fun env Q => ga env fun x => isDict x = true ∧ gb env fun y => onO (dGet x y) fun o => Q (o.getD .non)
theorem dp_get2 {o e f : Expr} {ga gb gc : PF} {apos cpos : Pos} (hu : X.A.units + 100 < cLine) (ha : DP X o ga) (hb : DP X e gb) (hc : DP X f gc) (m : M2 X o "get" apos e f cpos := by exact ⟨rfl, rfl, rfl, rfl⟩) : DP X (.Call (.Attribute o "get" apos) [e, f] [] cpos) (pGet2 ga gb gc) := by
  obtain ⟨ta, pa, ka⟩ := ha.ex
  obtain ⟨tb, pb, kb⟩ := hb.ex
  obtain ⟨tc, pc, kc⟩ := hc.ex
  refine ⟨_, pe_dget2 (by omega) pa pb pc m, fun σ H env F R Q Q' s f q => ?_⟩
  refine ka σ H env F R _ _ s f fun v d A H1 F1 g1 r f1 => ?_
  obtain ⟨hd, f1⟩ := f1
  obtain ⟨a, rfl, isd⟩ := isDict_ok g1.s r hd
  refine ⟨a, rfl, isd, ?_⟩
  refine kb σ H1 env F1 R _ _ (s.gr g1) f1 fun w dw B H2 F2 g2 r2 f2 => ?_
  refine kc σ H2 env F2 R _ _ ((s.gr g1).gr g2) f2 fun z dz C H3 F3 g3 r3 f3 => ?_
  obtain ⟨o, eo, f3⟩ := onO_some f3
  obtain ⟨a', rr, ea, dg, rel⟩ := dget_of g3.s (r.mono (g2.trans g3).f (g2.trans g3).h) (r2.mono g3.f g3.h) eo
  cases ea
  refine ⟨rr, dg, ?_⟩
  cases o with
  | none =>
    cases rr with
    | none => exact q _ _ _ H3 F3 ((g1.trans g2).trans g3) r3 f3
    | some _ => exact rel.elim
  | some d' =>
    cases rr with
    | none => exact rel.elim
    | some v' =>
      obtain ⟨D, rd, _⟩ := rel
      exact q _ _ _ H3 F3 ((g1.trans g2).trans g3) rd f3
theorem dp_get1 {o e : Expr} {ga gb : PF} {apos cpos : Pos} (hu : X.A.units + 100 < cLine) (ha : DP X o ga) (hb : DP X e gb) (m : M1 X o "get" apos e cpos := by exact ⟨rfl, rfl, rfl, rfl⟩) : DP X (.Call (.Attribute o "get" apos) [e] [] cpos) (pGet1 ga gb) := by
  obtain ⟨ta, pa, ka⟩ := ha.ex
  obtain ⟨tb, pb, kb⟩ := hb.ex
  refine ⟨_, pe_dget1 (by omega) pa pb m, fun σ H env F R Q Q' s f q => ?_⟩
  refine ka σ H env F R _ _ s f fun v d A H1 F1 g1 r f1 => ?_
  obtain ⟨hd, f1⟩ := f1
  obtain ⟨a, rfl, isd⟩ := isDict_ok g1.s r hd
  refine ⟨a, rfl, isd, ?_⟩
  refine kb σ H1 env F1 R _ _ (s.gr g1) f1 fun w dw B H2 F2 g2 r2 f2 => ?_
  obtain ⟨o, eo, f3⟩ := onO_some f2
  obtain ⟨a', rr, ea, dg, rel⟩ := dget_of g2.s (r.mono g2.f g2.h) r2 eo
  cases ea
  refine ⟨rr, dg, ?_⟩
  cases o with
  | none =>
    cases rr with
    | none => exact q _ _ [] H2 F2 (g1.trans g2) .non f3
    | some _ => exact rel.elim
  | some d' =>
    cases rr with
    | none => exact rel.elim
    | some v' =>
      obtain ⟨D, rd, _⟩ := rel
      exact q _ _ _ H2 F2 (g1.trans g2) rd f3
/-! max, min of a list of ints -/
def cMax1 : CF := c1 fun x Q => match x with
  | .lst _ xs => ∃ ns : List Int, xs = ns.map D.int ∧ 0 < ns.length ∧ ∀ m, m ∈ ns → (∀ y, y ∈ ns → y ≤ m) → Q (.int m)
  | _ => False
def cMin1 : CF := c1 fun x Q => match x with
  | .lst _ xs => ∃ ns : List Int, xs = ns.map D.int ∧ 0 < ns.length ∧ ∀ m, m ∈ ns → (∀ y, y ∈ ns → m ≤ y) → Q (.int m)
  | _ => False
theorem cd_max1 (hc : X.calm = true) : CallD X (.builtin "max") cMax1 := CallD.mk1 (cr_max hc) fun F H v d A Q Q' hS r h hn => by
  cases d with
  | lst m xs =>
    obtain ⟨ns, rfl, h0, q⟩ := h
    obtain ⟨a, vs, rfl, e, rs, l⟩ := r.lst_items hS (nowns_ints ns)
    obtain ⟨rfl, _⟩ := rs.ints
    exact ⟨a, ns, rfl, SqL_of e, h0, fun m h1 h2 => hn.flat hS (.int _) (q m h1 h2)⟩
  | _ => exact h.elim
theorem cd_min1 (hc : X.calm = true) : CallD X (.builtin "min") cMin1 := CallD.mk1 (cr_min hc) fun F H v d A Q Q' hS r h hn => by
  cases d with
  | lst m xs =>
    obtain ⟨ns, rfl, h0, q⟩ := h
    obtain ⟨a, vs, rfl, e, rs, l⟩ := r.lst_items hS (nowns_ints ns)
    obtain ⟨rfl, _⟩ := rs.ints
    exact ⟨a, ns, rfl, SqL_of e, h0, fun m h1 h2 => hn.flat hS (.int _) (q m h1 h2)⟩
  | _ => exact h.elim
/-! xs.index(i), ints -/
def dIndex (fa : DF) (gb : PF) : DF := fun env Q E => fa env (fun x e1 => match x with
  | .lst _ xs => gb e1 fun y => (match y with
    | .int i => ∃ ns : List Int, xs = ns.map D.int ∧ i ∈ ns ∧ Q (.int (ns.idxOf i : Nat)) e1
    | _ => False)
  | _ => False) E
def pIndex (ga gb : PF) : PF := fun env Q => ga env fun x => match x with
  | .lst _ xs => gb env fun y => (match y with
    | .int i => ∃ ns : List Int, xs = ns.map D.int ∧ i ∈ ns ∧ Q (.int (ns.idxOf i : Nat))
    | _ => False)
  | _ => False
theorem index_go {F H : Hp} {v : V} {m : Mk} {ns : List Int} {i : Int} {A : List Addr} (hS : Same F H) (r : RO (tx X) F H v (.lst m (ns.map D.int)) A) (hi : i ∈ ns) {Q : VK} (q : Q (.int (ns.idxOf i : Nat)) H) : rIndex X.K v [.int i] H Q := by
  obtain ⟨a, vs, rfl, e, rs, l⟩ := r.lst_items hS (nowns_ints ns)
  obtain ⟨rfl, _⟩ := rs.ints
  have hlt := List.idxOf_lt_length_iff.mpr hi
  refine ⟨a, _, .int i, ns.idxOf i, .int i, rfl, rfl, SqL_of e, rfl, ?_, ?_, ?_, fun m z' hm hz => ?_, q⟩
  · simp [flatV]
  · rw [List.getElem?_map, List.getElem?_eq_getElem hlt, List.getElem_idxOf]; rfl
  · simp [eqV]
  · rw [List.getElem?_map] at hz
    obtain ⟨n, hn, rfl⟩ := Option.map_eq_some_iff.mp hz
    have hml : m < ns.length := by omega
    have := List.not_of_lt_findIdx (p := fun x => x == i) (xs := ns) (i := m) hm
    rw [List.getElem?_eq_getElem hml] at hn
    cases hn
    simpa [eqV] using this
theorem lst_tyV {F H : Hp} (hS : Same F H) {v : V} {m : Mk} {xs : List D} {A : List Addr} (r : RO (tx X) F H v (.lst m xs) A) : tyV X.K "list" v H := by
  cases r with
  | lstO e _ => exact .inl ⟨rfl, _, SqL_of e⟩
  | lstF _ e _ => exact .inl ⟨rfl, _, SqL_of (hS _ _ e)⟩
theorem de_index {o e : Expr} {fa : DF} {gb : PF} {apos cpos : Pos} (ha : DE X W o fa) (hb : DP X e gb)
    (hbase : attributeBase o "index" X.env (eval o X.env) = eval o X.env := by rfl)
    (hfew : ((backTo cpos (starEach [e] X.env)).all (fun x => !x.1) && (backToKw cpos (keywordEach [] X.env)).all (fun x => x.1.isSome)
      && decide (([e] : List Expr).length + ([] : List Keyword).length + (if ([] : List Keyword).isEmpty then 0 else 1) < 30)) = true := by rfl)
    (hline : (apos.endLine == cpos.line) = true := by rfl) (hs : starEach [e] X.env = (false, eval e X.env) :: starEach [] X.env := by rfl) (hplain : (backTo cpos (starEach [] X.env)).any (·.1) = false := by rfl) :
    DE X W (.Call (.Attribute o "index" apos) [e] [] cpos) (dIndex fa gb) := by
  obtain ⟨ta, pa, ka⟩ := ha.ex
  obtain ⟨tb, pb, kb⟩ := hb.ex
  refine ⟨_, pe_bm F.plainAttrs_list F.slot_list_index (by rfl) mt_index pa (pa_cons pb pa_nil hs) hbase hfew hline hs hplain, fun σ H env F R Q E Q' s f q x => ?_⟩
  refine ka σ H env F R _ E _ s f (fun v d e1 H1 F1 s1 st1 f1 => ?_) x
  cases d with
  | lst m xs =>
    obtain ⟨A, r⟩ := st1.abs.head
    refine ⟨lst_tyV st1.same r, ?_⟩
    refine kb σ H1 e1 F1 _ _ _ st1 f1 fun w dw B H2 F2 g2 r2 f2 => ?_
    cases dw with
    | int i =>
      obtain ⟨rfl, rfl⟩ := r2.int_inv
      obtain ⟨ns, rfl, hi, f2⟩ := f2
      have r' := r.mono g2.f g2.h
      exact index_go g2.s r' hi (q _ _ e1 H2 F2 (s1.trans g2.f) ((st1.gr g2).tail.push (.int _)) f2)
    | _ => exact f2.elim
  | _ => exact f1.elim
theorem dp_index {o e : Expr} {ga gb : PF} {apos cpos : Pos} (ha : DP X o ga) (hb : DP X e gb)
    (hbase : attributeBase o "index" X.env (eval o X.env) = eval o X.env := by rfl)
    (hfew : ((backTo cpos (starEach [e] X.env)).all (fun x => !x.1) && (backToKw cpos (keywordEach [] X.env)).all (fun x => x.1.isSome)
      && decide (([e] : List Expr).length + ([] : List Keyword).length + (if ([] : List Keyword).isEmpty then 0 else 1) < 30)) = true := by rfl)
    (hline : (apos.endLine == cpos.line) = true := by rfl) (hs : starEach [e] X.env = (false, eval e X.env) :: starEach [] X.env := by rfl) (hplain : (backTo cpos (starEach [] X.env)).any (·.1) = false := by rfl) :
    DP X (.Call (.Attribute o "index" apos) [e] [] cpos) (pIndex ga gb) := by
  obtain ⟨ta, pa, ka⟩ := ha.ex
  obtain ⟨tb, pb, kb⟩ := hb.ex
  refine ⟨_, pe_bm F.plainAttrs_list F.slot_list_index (by rfl) mt_index pa (pa_cons pb pa_nil hs) hbase hfew hline hs hplain, fun σ H env F R Q Q' s f q => ?_⟩
  refine ka σ H env F R _ _ s f fun v d A H1 F1 g1 r f1 => ?_
  cases d with
  | lst m xs =>
    refine ⟨lst_tyV g1.s r, ?_⟩
    refine kb σ H1 env F1 R _ _ (s.gr g1) f1 fun w dw B H2 F2 g2 r2 f2 => ?_
    cases dw with
    | int i =>
      obtain ⟨rfl, rfl⟩ := r2.int_inv
      obtain ⟨ns, rfl, hi, f2⟩ := f2
      exact index_go g2.s (r.mono g2.f g2.h) hi (q _ _ [] H2 F2 (g1.trans g2) (.int _) f2)
    | _ => exact f2.elim
  | _ => exact f1.elim
end
end Mf
set_option Elab.async false
set_option linter.all false
set_option maxHeartbeats 1000000
/-! xs.remove(i), ints. -/
namespace Mf
open PySem PySem.Spec PyProof.Rows L2
section
variable {X : Cx} {W : WX}
theorem ints_reads {h : Heap} {ns : List Int} {vs : List Value} (r : IntsAre vs ns) : ReadsAll h vs (ns.map .int) [] := ints_readsAll r
theorem plain_ints (ns : List Int) : PyData.plainAll (ns.map .int) = true := by
  induction ns with
  | nil => rfl
  | cons n r ih => rw [List.map_cons, PyData.plainAll, ih]; rfl
def rRemI : V → List V → Hp → VK → Prop := fun x xs H Q => ∃ (l : Addr) (ns : List Int) (k : Int), x = .ref l ∧ xs = [.int k] ∧ H l = some (.lst (ns.map V.int)) ∧ k ∈ ns ∧ Q .non (upd H l (.lst ((ns.erase k).map V.int)))
theorem mt_remI (hu : X.A.units + 100 < cLine) : MtR X "list.remove" rRemI := by
  intro pins s σ H x xs v us Q I rx rv h
  obtain ⟨l, ns, k, rfl, rfl, hH, hk, q⟩ := h
  cases rx
  obtain ⟨u, rfl, ru⟩ := rv.one
  obtain ⟨t, rfl⟩ := ru
  obtain ⟨z, its, n, r, hl, e⟩ := I.lstM hH
  have hi : IntsAre its ns := intsAre_of r
  obtain ⟨j, j1, j2, j3, j4⟩ := first_at hk
  have hpl : SeqAt.dataPlace (ns.map .int) (.int k) = some j := by
    unfold SeqAt.dataPlace
    rw [List.findIdx?_eq_some_iff_getElem]
    refine ⟨by rw [List.length_map]; exact j1, ?_, fun i hij => ?_⟩
    · rw [List.getElem_map]
      rw [List.getElem?_eq_getElem j1] at j2
      cases j2
      simp [PyData.eqv]
    · rw [List.getElem_map]
      have := j3 i hij
      rw [List.getElem?_eq_getElem (by omega)] at this
      simp only [PyData.eqv]
      simpa using this
  refine SeqAt.remove_list_data (vs := its.toArray) ⟨_, e, rfl, n, rfl⟩ (ints_reads hi) (.int k t) (plain_ints ns) rfl (by rw [PySem.W.depth_ints]; omega) hpl (by rw [List.size_toArray, ← hl]; exact z) ?_
  have r2 : Vals ((ns.erase k).map V.int) (its.eraseIdx j) := by
    have w := r.eraseIdx j
    rw [map_eraseIdx', j4] at w
    exact w
  refine ⟨.non, _, I.lset (its' := its.eraseIdx j) (t' := s.toks) hH e ?_ r2 ?_, rfl, q⟩
  · show its.toArray.eraseIdxIfInBounds j = (its.eraseIdx j).toArray
    rw [List.eraseIdxIfInBounds_toArray]
  · rw [List.length_map] at z ⊢
    have := List.length_erase_le (a := k) (l := ns)
    omega
def mRemove : MF := fun d as Q => match d, as with
  | .lst .own ds, [.int i] => ∃ ns : List Int, ds = ns.map D.int ∧ i ∈ ns ∧ Q .non (.lst .own ((ns.erase i).map D.int))
  | _, _ => False
theorem ros_ints {T : Tx} {F H : Hp} : ∀ ns : List Int, ROs T F H (ns.map V.int) (ns.map D.int) []
  | [] => .nil
  | n :: r => .cons (A := []) (B := []) (.int n) (ros_ints r)
theorem mu_remove (hu : X.A.units + 100 < cLine) : MutD X "list.remove" mRemove := by
  refine ⟨_, mt_remI hu, fun F H x dx vs ds L R Q Q' l h hm q => ?_⟩
  match dx, ds, hm with
  | .lst .own xs, [.int i], hm =>
    obtain ⟨w, rfl⟩ := List.length_eq_one_iff.mp l
    obtain ⟨ns, rfl, hi, hm⟩ := hm
    have rw' := (h.tail).head0 (show nown (D.int i) = true from rfl)
    obtain ⟨rfl, _⟩ := rw'.int_inv
    obtain ⟨a, ws, rfl, ha, lw, h1⟩ := h.ownL
    have h1 : Abs (tx X) F H (a :: L) (ws.zip (ns.map D.int) ++ R) := (h1.perm List.perm_middle).tail
    obtain ⟨A, ra⟩ := h.head
    have ew : ws = ns.map V.int := by
      obtain ⟨A, r, _, _⟩ := h1.own
      obtain ⟨A1, A2, rfl, r1, r2⟩ := RL.split r
      exact (RL.to_zip lw r1).ints.1
    subst ew
    refine ⟨a, ns, i, rfl, rfl, ha, hi, ?_⟩
    refine q .non .non _ F _ (Same.refl _) (fun b m => res_keep h1 m) (Abs.push ?_ .non) hm
    exact Abs.closeL (vs := (ns.erase i).map V.int) (ds := (ns.erase i).map D.int) (Abs.pushAll (ros_ints _) h1.drop).write upd_same (by simp)
end
end Mf
set_option Elab.async false
set_option linter.all false
set_option maxHeartbeats 1000000
/-! == of two instances, a method without arguments: borrowing calls. -/
namespace Mf
open PySem PySem.Spec PyProof.Rows L2
section
variable {X : Cx} {W : WX}
/-- the frame of a borrowing call -/
theorem borrow {n : Nat} {d : DSp} {σ : L2.St} {env : En} {R : Rs} {F1 H1 : Hp} {vs : List V} {ds : List D} {A : List Addr} {Q : D → Prop} {Q' : VK} {E : XK} (len : ∀ ds st Q E, d ds st Q E → ds.length = n) (s : StA (tx X) F1 H1 σ env [] R) (ra : ROs (tx X) F1 H1 vs ds A)
    (f1 : d (fzs ds) [] (fun r _ => flatD r = true ∧ Q r) fun _ _ => False) (q : ∀ v r H', StA (tx X) F1 H' σ env [] ((v, r) :: R) → Q r → Q' v H') : toSp ⟨X.K, X.mg⟩ n d vs H1 Q' E := by
  have sm := s.same
  obtain ⟨rs, sl, ab⟩ := s
  obtain ⟨B, rb, nd, fr⟩ := ab.own
  rw [List.nil_append] at nd
  open Classical in
  let F2 : Hp := fun b => if b ∈ A then H1 b else F1 b
  have s12 : Same F1 F2 := fun b o z => by
    show (if b ∈ A then H1 b else F1 b) = some o
    split
    · exact sm _ _ z
    · exact z
  have s2H : Same F2 H1 := fun b o z => by
    have z : (if b ∈ A then H1 b else F1 b) = some o := z
    split at z
    · exact z
    · exact sm _ _ z
  have r2 : ROs (tx X) F2 H1 vs (fzs ds) [] := ROs.freeze s12 ra fun b m => if_pos m
  have live : ∀ b ∈ B.filter (fun b => decide (b ∉ A)), ∃ o, H1 b = some o := fun b m => rb.live (List.mem_filter.mp m).1
  have l2 : vs.length = (fzs ds).length := r2.len
  have rz := (RL.of_zip r2).2
  have ab2 : Abs (tx X) F2 H1 [] (vs.zip (fzs ds) ++ (stR [] ++ raws H1 (B.filter fun b => decide (b ∉ A)))) := by
    refine ⟨s2H, (fun b m => nomatch m), [] ++ B.filter (fun b => decide (b ∉ A)), rz.app (raws_rl live), ?_, fun b m => ?_⟩
    · have := nd.filter (fun b => decide (b ∉ A)); rwa [List.nil_append, List.nil_append]
    · have m : b ∈ B.filter (fun b => decide (b ∉ A)) := by simpa using m
      have m := List.mem_filter.mp m
      show (if b ∈ A then H1 b else F1 b) = none
      rw [if_neg (by simpa using m.2)]
      exact fr b (by simpa using m.1)
  refine ⟨l2.trans (len _ _ _ _ f1), F2, fzs ds, [], raws H1 (B.filter fun b => decide (b ∉ A)), _, _, l2, ab2, f1, fun v r st' H' F' s' ab' ⟨qb, qq⟩ => ?_, fun cls dd x' st' H' F' s' ab' rx q' => q'.elim⟩
  obtain ⟨C, rc, _, _⟩ := (Abs.drop ab'.tail).own
  have same1 := raws_same live rc
  have sameB : ∀ b ∈ B, H' b = H1 b := fun b m => by
    by_cases hA : b ∈ A
    · obtain ⟨o, e⟩ := rb.live m
      rw [e]
      exact ab'.same _ _ (s' _ _ (show (if b ∈ A then H1 b else F1 b) = some o from by rw [if_pos hA]; exact e))
    · exact same1 b (List.mem_filter.mpr ⟨m, by simpa using hA⟩)
  have sFH : Same F1 H' := fun b o z => ab'.same _ _ (s' _ _ (s12 _ _ z))
  have abF : Abs (tx X) F1 H' [] (rs ++ (stR env.st ++ R)) := ⟨sFH, fun b m => (by simp at m), B, rb.keep sameB, by simpa using nd, fr⟩
  obtain ⟨D, rd⟩ := ab'.head
  exact q v r H' (StA.push ⟨rs, sl, abF⟩ (flat_ro qb rd)) qq
end
section
variable {X : Cx} {W : WX} {CX : CXT} {k : Nat} {f C : Addr} {fd : FuncData} {ps : List Str} {sp : Sp}
/-- x == y of two instances of the class at C -/
def rEqI (C : Addr) (sp : Sp) : R2 := fun x y H Q => ∃ a b dx dy fs gs, x = .ref a ∧ y = .ref b ∧ H a = some (.ins C dx fs) ∧ H b = some (.ins C dy gs) ∧ sp [.ref a, .ref b] H (fun v H' => (∃ b, v = .bl b) ∧ Q v H') fun _ _ _ => False
theorem op_eqI (F : FnG X.prog X.w X.K X.mg X.base (L2.CX X.prog X.w) k f fd ps sp) (hgd : X.A.guards = some []) (hr : Room k X.A) (hs : PySem.W.findIn X.K (.ref C) "__eq__" = some (some (.ref f))) (hf : PySem.W.isFn X.K (.ref f) = true) (hb : Binds X.K fd ps []) : OpR X (compareOp .Eq) (rEqI C sp) := by
  intro pins s σ H x y u v Q I rx ry h
  obtain ⟨a, b, dx, dy, fs, gs, rfl, rfl, ha, hb', hsp⟩ := h
  cases rx
  cases ry
  obtain ⟨mA, J, _⟩ := ins_get I.hok ha
  obtain ⟨mB, J', _⟩ := ins_get I.hok hb'
  obtain ⟨od, J, _⟩ := J.look
  obtain ⟨od', J', _⟩ := J'.look
  obtain ⟨m, hF⟩ := I.fr
  show wpAny (model X.prog X.w) X.A (richCompare .Eq (.ref a) (.ref b)) (EP X pins σ Q) X.xe s
  refine PySem.W.cmp_K (op := .Eq) (tb := .ref C) (by have := hr.un; omega) hF I.ok.mod.kin J J'.type (by simp [PySem.W.notFirst]) hs hf ?_
  have hl := F.len _ _ _ _ hsp
  have r2 : Vals [V.ref a, V.ref b] [Value.ref a, Value.ref b] := .cons rfl (.cons rfl .nil)
  have bb := hb s [.ref a, .ref b] I.kIn (by simpa using hl)
  rw [List.append_nil] at bb
  refine wpAny_call (codeAny_mono (F.run X.A X.stack s H ⟨[.ref a, .ref b], []⟩ [.ref a, .ref b] [.ref a, .ref b] _ _ hgd hr I.env0 bb r2 hsp) fun r s' hq => ?_)
  cases r with
  | error e =>
    obtain ⟨_, _, _, _, _, _, _, _, _, _, _, _, z⟩ := hq
    exact z.elim
  | ok fl =>
    cases fl with
    | ret w =>
      obtain ⟨z, H', I', rz, ⟨bl, ez⟩, qz⟩ := I.after hq
      subst ez
      cases rz
      exact ⟨.bl bl, H', I', rfl, qz⟩
    | next => exact hq.elim
    | brk => exact hq.elim
    | cont => exact hq.elim
/-- the text's own == of the class c -/
structure EqC (P : Program) (w : World) (K : PySem.W.Frag) (mg : Str → Option Value) (base : Heap) (k : Nat) (c : Str) (d : DSp) : Prop where
  len : ∀ ds st Q E, d ds st Q E → ds.length = 2
  ex : ∃ C f fd ps, mg c = some (.ref C) ∧ PySem.W.findIn K (.ref C) "__eq__" = some (some (.ref f)) ∧ PySem.W.isFn K (.ref f) = true ∧ FnG P w K mg base (L2.CX P w) k f fd ps (toSp ⟨K, mg⟩ 2 d) ∧ Binds K fd ps []
def isI (c : Str) : D → Bool
  | .ins _ c' _ => c' == c
  | _ => false
theorem isI_ok {T : Tx} {F H : Hp} (hS : Same F H) {c : Str} {C : Addr} (hm : T.mg c = some (.ref C)) {v : V} {d : D} {A : List Addr} (r : RO T F H v d A) (h : isI c d = true) : ∃ a dx fs, v = .ref a ∧ H a = some (.ins C dx fs) := by
  cases r with
  | insO hc ha _ _ =>
    have e := beq_iff_eq.mp h
    subst e
    rw [hm] at hc
    cases hc
    exact ⟨_, _, _, rfl, ha⟩
  | insF _ hc ha _ _ =>
    have e := beq_iff_eq.mp h
    subst e
    rw [hm] at hc
    cases hc
    exact ⟨_, _, _, rfl, hS _ _ ha⟩
  | _ => simp [isI] at h
def dEqI (c : Str) (d : DSp) (ga gb : PF) : DF := fun env Q _ => ga env fun x => gb env fun y => isI c x = true ∧ isI c y = true ∧ d (fzs [x, y]) [] (fun r _ => flatD r = true ∧ ∃ b, r = .bl b ∧ Q r env) fun _ _ => False
variable {c : Str} {d : DSp} {a b : Expr} {ga gb : PF} {pos : Pos}
theorem eqI_go (M : EqC X.prog X.w X.K X.mg X.base k c d) (hgd : X.A.guards = some []) (hr : Room k X.A) (ha : DP X a ga) (hb : DP X b gb) : ∃ r' ta tb, OpR X (compareOp .Eq) r' ∧ PE X a ta ∧ PE X b tb ∧
    ∀ (σ : L2.St) (H : Hp) (env : En) (F : Hp) (R : Rs) (Q : D → En → Prop) (E : EK) (Q' : VK), StA (tx X) F H σ env [] R → dEqI c d ga gb env Q E →
    (∀ v d env' H' F', Same F F' → StA (tx X) F' H' σ env' [] ((v, d) :: R) → Q d env' → Q' v H') → ExK X W F R E → tOp r' ta tb σ H Q' := by
  obtain ⟨len, C, f, fd, ps, hm, hs, hf, F, hbd⟩ := M
  obtain ⟨ta, pa, ka⟩ := ha.ex
  obtain ⟨tb, pb, kb⟩ := hb.ex
  refine ⟨_, ta, tb, op_eqI F hgd hr hs hf hbd, pa, pb, fun σ H env F R Q E Q' s f0 q _ => ?_⟩
  refine ka σ H env F R _ _ s f0 fun u du A H1 F1 g1 ra f1 => ?_
  refine kb σ H1 env F1 R _ _ (s.gr g1) f1 fun w dw B H2 F2 g2 rb f2 => ?_
  obtain ⟨i1, i2, f2⟩ := f2
  have ra2 := ra.mono g2.f g2.h
  obtain ⟨x, dx, fs, rfl, hx⟩ := isI_ok (T := tx X) g2.s hm ra2 i1
  obtain ⟨y, dy, gs, rfl, hy⟩ := isI_ok (T := tx X) g2.s hm rb i2
  refine ⟨x, y, dx, dy, fs, gs, rfl, rfl, hx, hy, ?_⟩
  refine borrow (Q := fun r => ∃ b, r = .bl b ∧ Q r env) len ((s.gr g1).gr g2) (.cons ra2 (.cons rb .nil)) f2 fun v r H' st ⟨bb, er, qr⟩ => ?_
  subst er
  obtain ⟨D, rd⟩ := st.abs.head
  obtain ⟨rfl, _⟩ := rd.bl_inv
  exact ⟨⟨bb, rfl⟩, q _ _ env H' F2 (g1.trans g2).f st qr⟩
theorem de_eqI (M : EqC X.prog X.w X.K X.mg X.base k c d) (hgd : X.A.guards = some []) (hr : Room k X.A) (ha : DP X a ga) (hb : DP X b gb) : DE X W (.Compare a [.Eq] [b] pos) (dEqI c d ga gb) := by
  obtain ⟨r', ta, tb, o, pa, pb, kk⟩ := eqI_go (W := W) M hgd hr ha hb
  exact ⟨_, pe_cmpR o pa pb (nomark _), kk⟩
theorem dt_eqI (M : EqC X.prog X.w X.K X.mg X.base k c d) (hgd : X.A.guards = some []) (hr : Room k X.A) (ha : DP X a ga) (hb : DP X b gb) : DT X W (.Compare a [.Eq] [b] pos) (bV (dEqI c d ga gb)) := by
  obtain ⟨r', ta, tb, o, pa, pb, kk⟩ := eqI_go (W := W) M hgd hr ha hb
  exact ⟨_, pt_cmpR o pa pb (nomark _), DE.test kk⟩
end
end Mf
set_option Elab.async false
set_option linter.all false
set_option maxRecDepth 100000
set_option maxHeartbeats 1000000
/-! len(set(xs)), xs a list of texts, fewer than 4000. -/
namespace Mf
open PySem PySem.Spec PyProof.Rows L2

def addS (acc : List Str) (x : Str) : List Str := if x ∈ acc then acc else acc ++ [x]
def dedS (xs : List Str) : List Str := xs.foldl addS []
theorem addS_mem {acc : List Str} {x k : Str} : k ∈ addS acc x ↔ k ∈ acc ∨ k = x := by
  unfold addS
  split
  · rename_i h
    exact ⟨.inl, fun q => q.elim id fun e => e ▸ h⟩
  · simp
theorem addS_nodup {acc : List Str} {x : Str} (h : acc.Nodup) : (addS acc x).Nodup := by
  unfold addS
  split
  · exact h
  · rename_i n
    refine List.nodup_append.mpr ⟨h, by simp, fun a m b m' e => n ?_⟩
    have : b = x := by simpa using m'
    exact this ▸ e ▸ m
theorem foldS_mem : ∀ (xs acc : List Str) (k : Str), k ∈ xs.foldl addS acc ↔ k ∈ acc ∨ k ∈ xs
  | [], acc, k => by simp
  | x :: xs, acc, k => by
    rw [List.foldl_cons, foldS_mem xs, addS_mem, List.mem_cons, or_assoc]
theorem foldS_nodup : ∀ (xs acc : List Str), acc.Nodup → (xs.foldl addS acc).Nodup
  | [], _, h => h
  | x :: xs, acc, h => foldS_nodup xs _ (addS_nodup h)
theorem dedS_mem (xs : List Str) (k : Str) : k ∈ dedS xs ↔ k ∈ xs := by rw [dedS, foldS_mem]; simp
theorem dedS_nodup (xs : List Str) : (dedS xs).Nodup := foldS_nodup xs [] (by simp)
theorem addS_len (acc : List Str) (x : Str) : (addS acc x).length = if decide (x ∈ acc) = true then acc.length else acc.length + 1 := by
  unfold addS
  by_cases h : x ∈ acc <;> simp [h]
theorem foldS_le : ∀ (xs acc : List Str), (xs.foldl addS acc).length ≤ acc.length + xs.length
  | [], _ => Nat.le_refl _
  | x :: xs, acc => by
    have h := foldS_le xs (addS acc x)
    have e := addS_len acc x
    rw [List.foldl_cons, List.length_cons]
    split at e <;> omega
theorem dedS_le (xs : List Str) : (dedS xs).length ≤ xs.length := by
  have := foldS_le xs []
  simpa [dedS] using this
theorem dedS_take (xs : List Str) {i : Nat} (h : i < xs.length) : dedS (xs.take (i + 1)) = addS (dedS (xs.take i)) (xs.getD i Str.empty) := by
  have e : xs.take (i + 1) = xs.take i ++ [xs.getD i Str.empty] := by
    rw [List.take_succ]
    simp [List.getElem?_eq_getElem h]
  rw [e, dedS, List.foldl_append]
  rfl

/-- the set of the texts met so far -/
def Has (P : Program) (w : World) (h : Heap) (S : Addr) (xs : List Str) (i : Nat) : Prop :=
  h.SetOf (PySem.strKind P w) S (fun k => decide (k ∈ dedS (xs.take i))) (dedS (xs.take i)).length
theorem Has.move {P : Program} {w : World} {h h' : Heap} {S : Addr} {xs : List Str} {i : Nat} (H : Has P w h S xs i) (k : ∀ o, h.get? S = some o → h'.get? S = some o) : Has P w h' S xs i := by
  have ⟨o, es, ep, t, ho, q⟩ := H
  exact ⟨o, es, ep, t, k o ho, q⟩
section
variable {P : Program} {w : World} {A : Around} {R : Result → Shared → Prop} {I : Addr} {fp wr : List Addr} {G : Array GenState → Array GenState → Prop} {N : Nat} {V0 : Nat → Value → Prop} {St : Nat → Shared → Prop}
theorem fill_strs (W : WalksS P w A.in1 I fp wr G N V0 St) (S : Addr) (out : S ∉ fp) (xs : List Str) (len : xs.length = N) (few : N < 4000)
    (each : ∀ i v, V0 i v → ∃ tk, v = .str (xs.getD i Str.empty) tk) : ∀ (d i : Nat) (s : Shared), N - i = d → i ≤ N → St i s → Has P w s.heap S xs i →
      (∀ s', Moved (S :: wr) G s s' → Has P w s'.heap S xs N → R (.ok (.ret .none)) s') → codeAny (model P w) A (.builtin "set.update.loop" ⟨[.ref S, .ref I], []⟩) R s := by
  have away : S ∉ wr := fun m => out (W.sub _ m)
  have wider : ∀ b ∈ wr, b ∈ S :: wr := fun b m => .tail _ m
  intro d
  induction d with
  | zero =>
    intro i s e le st hs fin
    obtain rfl : i = N := by omega
    refine codeAny_builtin F.entry_set_update_loop ?_
    rw [Around.under_plainId F.plain_set_update_loop _] <;> show wpAny _ A.in1 (pyNext (.ref I) >>= _) _ _ s
    refine wpAny_bind (W.done s _ _ st fun s' mv => ?_) <;> show wpAny _ A.in1 (ret Value.none) _ _ s'
    exact wpAny_pure (fin s' (mv.mono wider) (hs.move fun o ho => mv.heap S o away ho))
  | succ d ih =>
    intro i s e le st hs fin
    have lt : i < N := by omega
    refine codeAny_builtin F.entry_set_update_loop ?_
    rw [Around.under_plainId F.plain_set_update_loop _] <;> show wpAny _ A.in1 (pyNext (.ref I) >>= _) _ _ s
    refine wpAny_bind (W.item i s _ _ lt st fun v s' hv st' mv => ?_)
    obtain ⟨tk, rfl⟩ := each i v hv
    have hs' := hs.move (h' := s'.heap) fun o ho => mv.heap S o away ho
    show wpAny _ A.in1 (holding [Value.str (xs.getD i Str.empty) tk] (setAdd S (.str (xs.getD i Str.empty) tk)) >>= _) _ _ s' <;> refine wpAny_bind (wpAny_holding ?_)
    unfold setAdd <;> refine wpAny_holding (wpAny_bind ((PySem.strKind P w).pyHash (k := xs.getD i Str.empty) (strKind_is _ _ _ _) ?_))
    have room : (dedS (xs.take i)).length + 1 < scanBound := by
      have := dedS_le (xs.take i)
      rw [List.length_take] at this
      unfold scanBound
      omega
    refine wpAny_setAddHashed_of (knd := PySem.strKind P w) (s := { s' with toks := s'.toks + 1 }) (strKind_is _ _ _ _) rfl hs' room fun h' same put => ?_
    have put' : Has P w h' S xs (i + 1) := by
      unfold Has
      rw [dedS_take xs (by omega)]
      refine SetOf_congr put (fun k => ?_) (addS_len _ _).symm
      simp only [addS_mem, Bool.decide_or]
    refine wpAny_pure ⟨plainId_quiet F.plain_set_update_loop _, ih (i + 1) _ (by omega) lt (W.frame _ s' _ _ st' (Nat.le_succ _) fun b m o eo => ?_) put' fun s2 mv2 hs2 => ?_⟩
    · exact (same.2 b fun eb : b = S => out (eb ▸ m)).trans eo
    · refine fin s2 (Moved.trans W.gtrans ((mv.mono wider).then_heap (Nat.le_succ _) fun b o m eo => ?_) mv2) hs2
      exact (same.2 b fun eb : b = S => m (by rw [eb] <;> exact .head _)).trans eo
end

section
variable {P : Program} {w : World} {A : Around} {E : Value → Shared → Prop} {s : Shared}
abbrev setNewO (led : Bool) : Obj := { cls := .type "set", dict := none, data := .set #[] 0 (.fresh 0 0 led) }
set_option maxHeartbeats 3200000 in
theorem call_setStrs {l : Addr} {its : Array Value} {xs : List Str} {Q : Value → Shared → Prop}
    (hh : A.handled = none) (hl : s.heap.IsList l its) (hi : StrsAre its.toList xs) (few : xs.length < 4000)
    (h : ∀ (h' : Heap) (tk : Nat), Has P w h' s.heap.objs.size xs xs.length → (∀ b o, b < s.heap.objs.size → s.heap.get? b = some o → h'.get? b = some o) → Q (.ref s.heap.objs.size) { s with heap := h', toks := tk }) :
    wpAny (model P w) A (call (.type "set") [.ref l]) Q E s := by
  have hsz : xs.length = its.size := by rw [← StrsAre.len_eq hi, Array.length_toList]
  obtain ⟨c, tl, hmro⟩ := PySem.F.called_set.mro <;> have hmade := PySem.F.called_set.made <;> have hsub := PySem.F.called_set.sub
  refine wpAny_call (codeAny_of_tree ?_) <;> show wpAny _ _ (callAny (.type "set") _) _ _ _
  refine wpAny_pure ⟨Code.quiet_builtin _ (by decide +kernel), codeAny_builtin PySem.F.entry_type_call ?_⟩ <;> rw [Around.under_plain (weight_type_call_type "set" [.ref l] []) rfl]
  have t1 := PySem.F.called_set.notType <;> have t2 := PySem.F.called_set.canCreate <;> have t3 := PySem.F.typeCall_set_1 (.ref l)
  repeat (any_goals (first | assumption | wp_step))
  refine codeAny_mono (code_set_new_1 (.ref l) (E := E) (Q₁ := fun obj s₁ => ∃ led : Bool, obj = .ref s.heap.objs.size ∧ s₁ = { s with heap := s.heap.push (setNewO led) }) fun led => ⟨led, rfl, rfl⟩) fun r s₁ hr => ?_
  match r, hr with
  | .ok (.ret obj), hr =>
    obtain ⟨led, rfl, rfl⟩ := hr
    have hS : (s.heap.push (setNewO led)).get? s.heap.objs.size = some (setNewO led) := Heap.get?_push_size _ rfl
    have hT : Shared.TypeIs { s with heap := s.heap.push (setNewO led) } (.ref s.heap.objs.size) "set" := ⟨_, hS, rfl⟩
    have i1 := PySem.F.called_set.init.lookup <;> have i2 := PySem.F.called_set.init.bind (.ref s.heap.objs.size)
    repeat (any_goals (first | assumption | wp_step))
    refine codeAny_mono (codeAny_call_builtin (R := wants (fun r s₂ => r = .none ∧ ∃ h' tk, s₂ = { s with heap := h', toks := tk } ∧ Has P w h' s.heap.objs.size xs xs.length ∧
          (∀ b o, b < s.heap.objs.size → s.heap.get? b = some o → h'.get? b = some o)) E) PySem.F.called_set.init.plain PySem.F.entry_set_init (check_set_init_1 hT ?_)) fun r₂ s₂ hr₂ => ?_
    · obtain ⟨⟨oc, od, oda, osl⟩, hol, hcl, nl, hdl⟩ := hl
      simp only at hcl hdl
      subst hcl hdl
      have hol' : (s.heap.push (setNewO led)).get? l = some { cls := .type "list", dict := od, data := .seq its nl, slots := osl } := Heap.get?_push_of_some _ hol
      have u1 := PySem.F.sub_list_set <;> have u2 := PySem.F.sub_list_frozenset
      have u3 : (Value.type "list" == Value.type "dict") = false := by decide
      have hl1 : (s.heap.push (setNewO led)).IsList l its := ⟨_, hol', rfl, nl, rfl⟩
      unfold Builtin.«set.__init__» noKeywords Builtin.Frozenset.updateFrom <;> generalize hPI : pyIter = PI
      wp_walk
      subst hPI
      refine wpAny_pyIter_list hl1 (wpAny_bind (wpAny_runValue ?_))
      have hlS : l < s.heap.objs.size := Heap.lt_size hol
      have hh3 : A.in1.in1.in1.handled = none := by simp [hh] <;> done
      have ne1 : l ≠ (s.heap.push (setNewO led)).objs.size := Nat.ne_of_lt (by rw [Heap.size_push] <;> exact Nat.lt_succ_of_lt hlS)
      have ne2 : s.heap.objs.size ∉ [(s.heap.push (setNewO led)).objs.size, l] := by
        rw [Heap.size_push]
        simp only [List.mem_cons, List.not_mem_nil, or_false, not_or]
        exact ⟨Nat.ne_of_lt (Nat.lt_succ_self _), Nat.ne_of_gt hlS⟩
      refine fill_strs ((Walks.list hh3 _ l ne1 its).toS) s.heap.objs.size ne2 xs hsz (by omega) (fun i v hv => SS.strs_at hi i v (by rw [Array.getElem?_toList] <;> exact hv)) (its.size - 0) 0 _ (by omega) (Nat.zero_le _)
          ⟨⟨_, Heap.get?_push_size _ rfl, rfl, rfl⟩, (hl1.push _)⟩ ?start ?finish
      case start =>
        have at1 : ((s.heap.push (setNewO led)).push { cls := .type "list_iterator", data := .fields #[.ref l, .int 0 0] }).get? s.heap.objs.size = some (setNewO led) := Heap.get?_push_of_some _ hS
        exact SetOf_congr ((setObjOf_fresh (knd := PySem.strKind P w) led).setOf at1 (by unfold scanBound <;> omega)) (fun k => by simp [dedS]) (by simp [dedS])
      case finish =>
        intro s' mv hs'
        obtain ⟨h', g', d', tk', os'⟩ := s'
        obtain rfl : g' = s.gens := mv.gens
        obtain rfl : d' = s.drawn := mv.drawn
        obtain rfl : os' = s.os := mv.os
        refine wpAny_pure (wpAny_pure ⟨rfl, h', tk', rfl, by rw [hsz] <;> exact hs', fun b o lt e => ?_⟩)
        refine mv.heap b o ?_ (Heap.get?_push_of_some _ (Heap.get?_push_of_some _ e))
        rw [Heap.size_push]
        simp only [List.mem_cons, List.not_mem_nil, or_false, not_or]
        exact ⟨Nat.ne_of_lt lt, Nat.ne_of_lt (Nat.lt_succ_of_lt lt)⟩
    · match r₂, hr₂ with
      | .ok (.ret r), hr₂ =>
        obtain ⟨rfl, h', tk, rfl, hs', hk'⟩ := hr₂
        repeat (any_goals (first | assumption | wp_step))
        exact h _ _ hs' hk'
      | .error e, hr₂ => exact hr₂
      | .ok .next, hr₂ => exact hr₂.elim
      | .ok .brk, hr₂ => exact hr₂.elim
      | .ok .cont, hr₂ => exact hr₂.elim
  | .error e, hr => exact hr
  | .ok .next, hr => exact hr.elim
  | .ok .brk, hr => exact hr.elim
  | .ok .cont, hr => exact hr.elim
end
end Mf
set_option Elab.async false
set_option linter.all false
set_option maxRecDepth 100000
set_option maxHeartbeats 1000000
namespace Mf
open PySem PySem.Spec PyProof.Rows L2
section
variable {X : Cx} {W : WX}
theorem ROs.strs {T : Tx} {F H : Hp} : ∀ {ns : List Str} {vs : List V} {A : List Addr}, ROs T F H vs (ns.map D.str) A → vs = ns.map V.str ∧ A = []
  | [], _, _, r => by cases r; exact ⟨rfl, rfl⟩
  | n :: ns, _, _, r => by
    cases r with
    | cons h r =>
      obtain ⟨rfl, rfl⟩ := ROs.strs (ns := ns) r
      cases h
      exact ⟨rfl, rfl⟩
theorem nowns_strs : ∀ ns : List Str, nowns (ns.map D.str) = true
  | [] => rfl
  | _ :: ns => by rw [List.map_cons, nowns, nowns_strs ns]; rfl
/-- len(set(xs)), xs a list of texts -/
def rLenSetS (K : PySem.W.Frag) : V → Hp → VK → Prop := fun x H Q => ∃ l, ∃ xs : List Str, x = .ref l ∧ SqL K H l (xs.map V.str) ∧ xs.length < 4000 ∧ Q (.int (dedS xs).length) H
def tLenSetS (K : PySem.W.Frag) (ta : TE) : TE := fun σ H Q => ta σ H fun x H1 => rLenSetS K x H1 Q
theorem pe_lenSetS {a : Expr} {ta : TE} {p p2 q pos : Pos} (hc : X.calm = true) (hg : Gl X "len") (hm : X.mg "len" = none) (hg2 : Gl X "set") (hm2 : X.mg "set" = none) (ha : PE X a ta)
    (na : starEach [a] X.env = (false, eval a X.env) :: starEach [] X.env := by rfl) : PE X (.Call (.Name "len" p) [.Call (.Name "set" p2) [a] [] q] [] pos) (tLenSetS X.K ta) := by
  refine ⟨fun pins s σ H Q I h => Call_ (ld_blt I hg hm boot_len (callWith_builtin1 (args_cons ?_ rfl) rfl rfl))⟩
  refine Call_ (ld_blt I hg2 hm2 boot_set (callWith_type1 (args_cons (thn (ha.run pins s σ H _ I h) fun v s1 ⟨x, H1, I1, r1, q1⟩ => args_nil ?_) na) na rfl))
  obtain ⟨l, xs, rfl, hq, few, q1⟩ := q1
  cases r1
  obtain ⟨its, r, pl, hz⟩ := I1.list hq
  refine call_setStrs (I1.ok.hd hc) pl.isList (by simpa using strsAre_of r) few fun h' tk hs k => args_nil ?_
  have ⟨o, es, ep, t, ho, hex, hd, _, _, _, hf, hn⟩ := hs
  rw [List.take_length] at hn
  have le := dedS_le xs
  have I2 : Inv X pins σ H1 { s1 with heap := h', toks := tk } := I1.kept fun b o e => k b o (Heap.lt_size e) e
  exact call_len_set ho hex hd hf (by rw [hn] <;> omega) ⟨.int (dedS xs).length, H1, I2.tok _, ⟨_, by rw [hn]⟩, q1⟩
def dLenSet (fa : DF) : DF := fun env Q E => fa env (fun x e1 => match x with
  | .lst _ xs => ∃ ss : List Str, xs = ss.map D.str ∧ ss.length < 4000 ∧ Q (.int (dedS ss).length) e1
  | _ => False) E
theorem de_lenSetE {e : Expr} {fa : DF} {p1 p2 q1 q2 : Pos} (hc : X.calm = true) (ha : DE X W e fa) (hg : Gl X "len") (hm : X.mg "len" = none) (hg2 : Gl X "set") (hm2 : X.mg "set" = none)
    (he : starEach [e] X.env = (false, eval e X.env) :: starEach [] X.env := by rfl) :
    DE X W (.Call (.Name "len" p1) [.Call (.Name "set" p2) [e] [] q2] [] q1) (dLenSet fa) := by
  obtain ⟨t, pa, k⟩ := ha.ex
  refine ⟨_, pe_lenSetS hc hg hm hg2 hm2 pa he, fun σ H env F R Q E Q' s f q x => ?_⟩
  refine k σ H env F R _ E _ s f (fun v d e1 H1 F1 s1 st1 f1 => ?_) x
  cases d with
  | lst m xs =>
    obtain ⟨ss, rfl, few, f1⟩ := f1
    obtain ⟨A, r⟩ := st1.abs.head
    obtain ⟨a, vs, rfl, ha', rs, l⟩ := r.lst_items st1.same (nowns_strs ss)
    obtain ⟨rfl, _⟩ := rs.strs
    refine ⟨a, ss, rfl, SqL_of ha', few, ?_⟩
    exact q _ (.int (dedS ss).length) e1 H1 F1 s1 (st1.tail.push (.int _)) f1
  | _ => exact f1.elim
end
end Mf
set_option Elab.async false
set_option linter.all false
set_option maxRecDepth 100000
set_option maxHeartbeats 1000000
/-! f-strings, join, methods without arguments. -/
namespace Mf
open PySem PySem.Spec PyProof.Rows L2
section
variable {X : Cx} {W : WX}
/-- {d} of an f-string -/
def textD (d : D) (k : Str → Prop) : Prop := match d with
  | .str y => y.length ≤ sizeLine ∧ k y
  | .int i => i.natAbs.log2 < 1920 ∧ k (toString i)
  | _ => False
def pFmt (ga : PF) : PF := fun env Q => ga env fun d => textD d fun y => Q (.str y)
theorem dp_fmt {e : Expr} {ga : PF} {pos : Pos} (ha : DP X e ga) : DP X (.FormattedValue e (-1) none pos) (pFmt ga) := by
  obtain ⟨t, pa, k⟩ := ha.ex
  refine ⟨_, pe_fmt pa, fun σ H env F R Q Q' s f q => ?_⟩
  refine k σ H env F R _ _ s f fun v d A H1 F1 g1 r f1 => ?_
  cases d with
  | str y =>
    obtain ⟨rfl, _⟩ := r.str_inv
    exact .inl ⟨y, rfl, f1.1, q _ (.str y) [] H1 F1 g1 (.str y) f1.2⟩
  | int i =>
    obtain ⟨rfl, _⟩ := r.int_inv
    exact .inr ⟨i, rfl, f1.1, q _ (.str (toString i)) [] H1 F1 g1 (.str _) f1.2⟩
  | _ => exact f1.elim
inductive DPJ (X : Cx) : List Expr → List PF → Prop where
  | nil : DPJ X [] []
  | cons {e : Expr} {g : PF} {es : List Expr} {gs : List PF} (h : DP X e g) (r : DPJ X es gs) : DPJ X (e :: es) (g :: gs)
def pJs : List PF → Str → En → (Str → Prop) → Prop
  | [], acc, _, Q => Q acc
  | g :: gs, acc, env, Q => g env fun d => ∃ y : Str, d = .str y ∧ (acc ++ y).length ≤ sizeLine ∧ pJs gs (acc ++ y) env Q
theorem DPJ.parts {es : List Expr} {gs : List PF} (h : DPJ X es gs) : ∃ ts, PJ X es ts ∧ ∀ (acc : Str) (σ : L2.St) (H : Hp) (env : En) (F : Hp) (R : Rs) (Q : Str → Prop) (Q' : Str → Hp → Prop), StA (tx X) F H σ env [] R → pJs gs acc env Q →
    (∀ out H' F', Gr F H F' H' → Q out → Q' out H') → tJs ts acc σ H Q' := by
  induction h with
  | nil => exact ⟨[], .nil, fun acc σ H env F R Q Q' s f q => q acc H F (Gr.refl s.same) f⟩
  | @cons e g es gs h r ih =>
    obtain ⟨t, pa, k⟩ := h.ex
    obtain ⟨ts, pj, kk⟩ := ih
    refine ⟨t :: ts, .cons pa pj, fun acc σ H env F R Q Q' s f q => ?_⟩
    refine k σ H env F R _ _ s f fun v d A H1 F1 g1 r f1 => ?_
    obtain ⟨y, rfl, hz, f1⟩ := f1
    obtain ⟨rfl, _⟩ := r.str_inv
    exact ⟨y, rfl, hz, kk _ σ H1 env F1 R Q Q' (s.gr g1) f1 fun out H2 F2 g2 f2 => q out H2 F2 (g1.trans g2) f2⟩
def pJoined (gs : List PF) : PF := fun env Q => pJs gs Str.empty env fun z => Q (.str z)
theorem dp_joined {v1 v2 : Expr} {rest : List Expr} {gs : List PF} {pos : Pos} (h : DPJ X (v1 :: v2 :: rest) gs) : DP X (.JoinedStr (v1 :: v2 :: rest) pos) (pJoined gs) := by
  obtain ⟨ts, pj, k⟩ := h.parts
  exact ⟨_, pe_joined pj, fun σ H env F R Q Q' s f q => k Str.empty σ H env F R _ _ s f fun out H1 F1 g1 f1 => q _ (.str out) [] H1 F1 g1 (.str out) f1⟩
def dJoin (sep : PF) (fa : DF) : DF := fun env Q E => sep env fun d => ∃ a : Str, d = .str a ∧ fa env (fun x e1 => match x with
  | .lst _ xs => ∃ ys : List Str, xs = ys.map D.str ∧ (ys.map (·.length)).sum + ys.length * a.length ≤ 16777216 ∧ Q (.str (Txt.join a ys)) e1
  | _ => False) E
theorem de_join {o e : Expr} {sep : PF} {fa : DF} {apos pos : Pos} (ho : DP X o sep) (ha : DE X W e fa) (hs : starEach [e] X.env = [(false, eval e X.env)] := by rfl) (hbase : attributeBase o "join" X.env (eval o X.env) = eval o X.env := by rfl) (hline : (apos.endLine == pos.line) = true := by rfl) :
    DE X W (.Call (.Attribute o "join" apos) [e] [] pos) (dJoin sep fa) := by
  obtain ⟨to, po, ko⟩ := ho.ex
  obtain ⟨t, pa, k⟩ := ha.ex
  refine ⟨_, pe_join po pa hs hbase hline, fun σ H env F R Q E Q' s f q x => ?_⟩
  refine ko σ H env F R _ _ s f fun u du B H0 F0 g0 r0 f0 => ?_
  obtain ⟨a, rfl, f0⟩ := f0
  obtain ⟨rfl, _⟩ := r0.str_inv
  refine ⟨⟨a, rfl⟩, k σ H0 env F0 R _ E _ (s.gr g0) f0 (fun v d e1 H1 F1 s1 st1 f1 => ?_) (x.mono g0.f)⟩
  cases d with
  | lst m xs =>
    obtain ⟨ys, rfl, hz, f1⟩ := f1
    obtain ⟨A, r⟩ := st1.abs.head
    obtain ⟨b, vs, rfl, ha', rs, l⟩ := r.lst_items st1.same (nowns_strs ys)
    obtain ⟨rfl, _⟩ := rs.strs
    exact ⟨a, b, ys, rfl, rfl, .inl (SqL_of ha'), hz, q _ (.str _) e1 H1 F1 (g0.f.trans s1) (st1.tail.push (.str _)) f1⟩
  | _ => exact f1.elim
end

/-- the method m of the class c -/
structure MthD (P : Program) (w : World) (K : PySem.W.Frag) (mg : Str → Option Value) (base : Heap) (k : Nat) (c m : Str) (n : Nat) (d : DSp) : Prop where
  len : ∀ ds st Q E, d ds st Q E → ds.length = n + 1
  ex : ∃ C f fd ps, ps.length = n + 1 ∧ mg c = some (.ref C) ∧ Cls K C ∧ Meth K C m f ∧ FnG P w K mg base (L2.CX P w) k f fd ps (toSp ⟨K, mg⟩ (n + 1) d) ∧ Binds K fd ps []
section
variable {X : Cx} {W : WX} {CX : CXT} {k : Nat} {f C : Addr} {fd : FuncData} {ps : List Str} {sp : Sp} {E : L2.St → XK} {o : Expr} {to : TE} {m c : Str} {d : DSp} {fa : DF} {apos pos : Pos} {pl : Sem Bool}
def tMeth0 (C : Addr) (m : Str) (sp : Sp) (E : L2.St → XK) (ta : TE) : TE := fun σ H Q => ta σ H fun x H1 => ∃ a dx fs, x = .ref a ∧ H1 a = some (.ins C dx fs) ∧ fs.lookup m = none ∧ sp [x] H1 Q (E σ)
theorem pe_meth0G (he : PE X o to) (c : Cls X.K C) (hm : Meth X.K C m f) (F : FnG X.prog X.w X.K X.mg X.base CX k f fd ps sp) (hgd : X.A.guards = some []) (hr : Room k X.A) (hb : Binds X.K fd ps []) (hx : ∀ σ, PassesAt CX X σ (E σ))
    (ht : eval (.Call (.Attribute o m apos) [] [] pos) X.env = (do
      let ov ← eval o X.env
      standAt apos.atName
      let (f, first) ← holding [ov] (getMethod ov m pl)
      callWith pos f first (backTo pos (starEach [] X.env)) (backToKw pos (keywordEach [] X.env))) := by rfl) :
    PE X (.Call (.Attribute o m apos) [] [] pos) (tMeth0 C m sp E to) := by
  constructor
  intro pins s σ H Q I h
  apply PySem.W.methodCall_KW (pl := pl) (thn (he.run pins s σ H _ I h) fun u s1 ⟨x, H1, I1, rx, a, dx, fs, ex, ea, l, q⟩ => ?_) ht
  subst ex
  cases rx
  exact getmeth_ok I1 ea c hm l (PySem.W.callWith_K0 (first := [.ref a]) I1.kIn hm.kp (run_fnG (us := [.ref a]) (vs := [.ref a]) F hgd hr hb (hx σ) I1 (.cons rfl .nil) q))
theorem lookup_none_of {α β : Type} {m : Str} : ∀ {gs : List (Str × α)} {fs : List (Str × β)}, gs.map (·.1) = fs.map (·.1) → fs.lookup m = none → gs.lookup m = none
  | [], _, _, _ => rfl
  | (g, x) :: gs, [], e, _ => by simp at e
  | (g, x) :: gs, (h, y) :: fs, e, l => by
    simp only [List.map_cons, List.cons.injEq] at e
    obtain ⟨rfl, e⟩ := e
    rw [List.lookup_cons] at l ⊢
    split at l
    · cases l
    · exact lookup_none_of e l
/-- o.m() -/
def dMeth0 (c m : Str) (d : DSp) (fa : DF) : DF := fun env Q E => fa env (fun x e1 => (match x with
  | .ins _ c' fs => c' = c ∧ fs.lookup m = none
  | _ => False) ∧ d [x] e1.st (fun r st' => Q r { e1 with st := st' }) (fun y st' => E y { e1 with st := st' })) E
theorem de_meth0 (M : MthD X.prog X.w X.K X.mg X.base k c m 0 d) (hgd : X.A.guards = some []) (hr : Room k X.A) (ps : Pss X W) (ha : DE X W o fa)
    (ht : eval (.Call (.Attribute o m apos) [] [] pos) X.env = (do
      let ov ← eval o X.env
      standAt apos.atName
      let (f, first) ← holding [ov] (getMethod ov m pl)
      callWith pos f first (backTo pos (starEach [] X.env)) (backToKw pos (keywordEach [] X.env))) := by rfl) : DE X W (.Call (.Attribute o m apos) [] [] pos) (dMeth0 c m d fa) := by
  obtain ⟨len, C, f, fd, pr, pl', hmg, cl, mt, F, hb⟩ := M
  obtain ⟨t, pa, ka⟩ := ha.ex
  refine ⟨_, pe_meth0G (E := WE W) pa cl mt F hgd hr hb ps ht, fun σ H env F0 R Q E Q' s f0 q xk => ?_⟩
  refine ka σ H env F0 R _ E _ s f0 (fun v x e1 H1 F1 s1 st1 f1 => ?_) xk
  cases x with
  | ins mk c' fs =>
    obtain ⟨⟨rfl, hl⟩, f1⟩ := f1
    have sm := st1.same
    obtain ⟨A, r⟩ := st1.abs.head
    have obj : ∃ a dx gs, v = .ref a ∧ H1 a = some (.ins C dx gs) ∧ gs.map (·.1) = fs.map (·.1) := by
      cases r with
      | @insO a _ C' dx gs _ A1 hm' ha' hk rr =>
        obtain rfl : C' = C := by
          rw [show (tx X).mg = X.mg from rfl, hmg] at hm'
          cases hm'; rfl
        exact ⟨a, dx, gs, rfl, ha', hk⟩
      | @insF a _ C' dx gs _ _ _ hm' ha' hk rr =>
        obtain rfl : C' = C := by
          rw [show (tx X).mg = X.mg from rfl, hmg] at hm'
          cases hm'; rfl
        exact ⟨a, dx, gs, rfl, sm _ _ ha', hk⟩
    obtain ⟨a, dx, gs, rfl, hA, hk⟩ := obj
    refine ⟨a, dx, gs, rfl, hA, lookup_none_of hk hl, ?_⟩
    obtain ⟨rs, sl, ab⟩ := st1
    refine ⟨rfl, F1, [.ins mk _ fs], e1.st, rs ++ R, _, _, rfl, ab.perm ?_, f1, fun v d' st' H' F' s' ab' q' => ?_, fun cls dd x' st' H' F' s' ab' rx q' => ?_⟩
    · show (rs ++ (stR e1.st ++ ((V.ref a, D.ins mk _ fs) :: R))).Perm ((V.ref a, D.ins mk _ fs) :: (stR e1.st ++ (rs ++ R)))
      refine (List.Perm.append_left _ List.perm_middle).trans (List.perm_middle.trans (List.Perm.cons _ ?_))
      rw [← List.append_assoc, ← List.append_assoc]
      exact List.perm_append_comm.append_right _
    · refine q v d' { e1 with st := st' } H' F' (s1.trans s') ⟨rs, sl, ab'.perm ?_⟩ q'
      show ((v, d') :: (stR st' ++ (rs ++ R))).Perm (rs ++ (stR st' ++ (v, d') :: R))
      have z : (stR st' ++ (v, d') :: R).Perm ((v, d') :: (stR st' ++ R)) := List.perm_middle
      refine List.Perm.trans ?_ (List.Perm.append_left rs z).symm
      refine List.Perm.trans (List.Perm.cons _ ?_) List.perm_middle.symm
      rw [← List.append_assoc, ← List.append_assoc]
      exact List.perm_append_comm.append_right _
    · refine xk cls dd x' σ { e1 with st := st' } H' F' (s1.trans s') ⟨rs, sl, ab'.perm ?_⟩ rx q'
      rw [← List.append_assoc, ← List.append_assoc]
      exact List.perm_append_comm.append_right _
  | _ => exact f1.1.elim
end
end Mf
set_option Elab.async false
set_option linter.all false
set_option maxRecDepth 100000
set_option maxHeartbeats 1000000
/-! isinstance(x, C), x an instance of the text's class C. -/
namespace Mf
open PySem PySem.Spec PyProof.Rows L2 C8
structure IsD (K : PySem.W.Frag) (mg : Str → Option Value) (c : Str) : Prop where
  ex : ∃ C, mg c = some (.ref C) ∧ InsC K C
section
variable {X : Cx} {c : Str}
def cIsC (c : Str) : CF := fun ds Q => match ds with
  | [x, .cls c'] => c' = c ∧ isI c x = true ∧ Q (.bl true)
  | _ => False
theorem cd_isC (M : IsD X.K X.mg c) : CallD X (.builtin "isinstance") (cIsC c) := by
  obtain ⟨C, hm, ic⟩ := M.ex
  refine ⟨_, call_isC ic, fun F H vs ds A Q Q' hS r h hn => ?_⟩
  match ds, r, h with
  | [x, .cls c'], r, h =>
    obtain ⟨rfl, i1, h⟩ := h
    obtain ⟨v, w, B, D, rfl, rv, rc⟩ := r.two
    obtain ⟨a, dx, fs, rfl, hH⟩ := isI_ok (T := tx X) hS hm rv i1
    cases rc with
    | cls hc =>
      have e : some (Value.ref _) = some (Value.ref C) := hc.symm.trans hm
      cases e
      exact ⟨a, dx, fs, rfl, hH, hn.flat hS (.bl true) h⟩
theorem dp_gcls {C : Addr} {pos : Pos} (hg : Gl X c) (hm : X.mg c = some (.ref C)) (hd : (c == ("__debug__" : Str)) = false := by decide) : DP X (.Name c pos) (pC (.cls c)) :=
  dp_c (pe_glob (v := .ref C) hg hm rfl hd) fun _ _ => .cls hm
theorem dp_gclsI {pos : Pos} (hg : Gl X c) (M : IsD X.K X.mg c) (hd : (c == ("__debug__" : Str)) = false := by decide) : DP X (.Name c pos) (pC (.cls c)) := by
  obtain ⟨C, hm, _⟩ := M.ex
  exact dp_gcls hg hm hd
variable {W : WX} {k : Nat} {d : DSp} {a b : Expr} {fa : DF} {gb : PF} {pos : Pos}
/-- a == b, a made on the spot -/
def dEqE (c : Str) (d : DSp) (fa : DF) (gb : PF) : DF := fun env Q E => fa env (fun x e1 => gb e1 fun y => isI c x = true ∧ isI c y = true ∧ d (fzs [x, y]) [] (fun r _ => flatD r = true ∧ ∃ b, r = .bl b ∧ Q r e1) fun _ _ => False) E
theorem eqE_go (M : EqC X.prog X.w X.K X.mg X.base k c d) (hgd : X.A.guards = some []) (hr : Room k X.A) (ha : DE X W a fa) (hb : DP X b gb) : ∃ r' ta tb, OpR X (compareOp .Eq) r' ∧ PE X a ta ∧ PE X b tb ∧
    ∀ (σ : L2.St) (H : Hp) (env : En) (F : Hp) (R : Rs) (Q : D → En → Prop) (E : EK) (Q' : VK), StA (tx X) F H σ env [] R → dEqE c d fa gb env Q E →
    (∀ v d env' H' F', Same F F' → StA (tx X) F' H' σ env' [] ((v, d) :: R) → Q d env' → Q' v H') → ExK X W F R E → tOp r' ta tb σ H Q' := by
  obtain ⟨len, C, f, fd, ps, hm, hs, hf, F, hbd⟩ := M
  obtain ⟨ta, pa, ka⟩ := ha.ex
  obtain ⟨tb, pb, kb⟩ := hb.ex
  refine ⟨_, ta, tb, op_eqI F hgd hr hs hf hbd, pa, pb, fun σ H env F R Q E Q' s f0 q xk => ?_⟩
  refine ka σ H env F R _ E _ s f0 (fun u du e1 H1 F1 s1 st1 f1 => ?_) xk
  refine kb σ H1 e1 F1 ((u, du) :: R) _ _ st1 f1 fun w dw B H2 F2 g2 rb f2 => ?_
  obtain ⟨i1, i2, f2⟩ := f2
  have st2 := st1.gr g2
  obtain ⟨A, ra⟩ := st2.abs.head
  obtain ⟨x, dx, fs, rfl, hx⟩ := isI_ok (T := tx X) g2.s hm ra i1
  obtain ⟨y, dy, gs, rfl, hy⟩ := isI_ok (T := tx X) g2.s hm rb i2
  refine ⟨x, y, dx, dy, fs, gs, rfl, rfl, hx, hy, ?_⟩
  refine borrow (Q := fun r => ∃ b, r = .bl b ∧ Q r e1) len st2 (.cons ra (.cons rb .nil)) f2 fun v r H' st ⟨bb, er, qr⟩ => ?_
  subst er
  obtain ⟨D, rd⟩ := st.abs.head
  obtain ⟨rfl, _⟩ := rd.bl_inv
  exact ⟨⟨bb, rfl⟩, q _ _ e1 H' F2 (s1.trans g2.f) (st.tail.tail.push (.bl bb)) qr⟩
theorem de_eqE (M : EqC X.prog X.w X.K X.mg X.base k c d) (hgd : X.A.guards = some []) (hr : Room k X.A) (ha : DE X W a fa) (hb : DP X b gb) : DE X W (.Compare a [.Eq] [b] pos) (dEqE c d fa gb) := by
  obtain ⟨r', ta, tb, o, pa, pb, kk⟩ := eqE_go (W := W) M hgd hr ha hb
  exact ⟨_, pe_cmpR o pa pb (nomark _), kk⟩
theorem dt_eqE (M : EqC X.prog X.w X.K X.mg X.base k c d) (hgd : X.A.guards = some []) (hr : Room k X.A) (ha : DE X W a fa) (hb : DP X b gb) : DT X W (.Compare a [.Eq] [b] pos) (bV (dEqE c d fa gb)) := by
  obtain ⟨r', ta, tb, o, pa, pb, kk⟩ := eqE_go (W := W) M hgd hr ha hb
  exact ⟨_, pt_cmpR o pa pb (nomark _), DE.test kk⟩
end
end Mf
set_option Elab.async false
set_option linter.all false
set_option maxRecDepth 100000
set_option maxHeartbeats 1000000
/-! The plain side: loops and comprehensions by what holds at each turn. -/
namespace Mf
open PySem PySem.Spec PyProof.Rows L2
theorem forL_inv {g : GF} {b : SF} {N : DN} (I : List D → En → Prop)
    (h : ∀ d ds e (N' : DN), I (d :: ds) e → (∀ e', I ds e' → N'.nx e' ∧ N'.ct e') → N'.bk = N.nx → N'.rt = N.rt → N'.ex = N.ex → g d e fun e1 => b N' e1)
    (q : ∀ e, I [] e → N.nx e) : ∀ ds e, I ds e → forL g b N ds e
  | [], e, i => q e i
  | d :: ds, e, i => h d ds e _ i (fun e' i' => ⟨forL_inv I h q ds e' i', forL_inv I h q ds e' i'⟩) rfl rfl rfl
theorem wipe_set {env : En} {v : Nat} {d : D} (hw : wipeE env [v] = env) : wipeE (setS env v d) [v] = env := by
  have e : wipeE (setS env v d) [v] = wipeE env [v] := by
    unfold wipeE setS
    simp [wipeL]
  rw [e, hw]
theorem lcL_pure {v : Nat} {ft : BF} {fe : DF} {env : En} {Q : List D → En → Prop} (p : D → Bool) (f : D → D) (hv : v < env.sl.length) (hw : wipeE env [v] = env) :
    ∀ (ds acc : List D), (∀ d ∈ ds, ∀ Qb : Bool → En → Prop, Qb (p d) (setS env v d) → ft (setS env v d) Qb EN) →
    (∀ d ∈ ds, p d = true → ∀ Qd : D → En → Prop, Qd (f d) (setS env v d) → fe (setS env v d) Qd EN) →
    acc.length + ds.length ≤ sizeLine → Q (acc ++ (ds.filter p).map f) env → lcL [v] (tName v) ft fe ds acc env Q
  | [], acc, _, _, _, q => by simpa [lcL] using q
  | d :: ds, acc, ht, he, hl, q => by
    have hl' : acc.length + ds.length + 1 ≤ sizeLine := by simpa [Nat.add_assoc] using hl
    refine ⟨hv, ht d (by simp) _ ?_⟩
    by_cases hp : p d = true
    · rw [if_pos hp]
      refine he d (by simp) hp _ ⟨by omega, ?_⟩
      rw [wipe_set hw]
      refine lcL_pure p f hv hw ds _ (fun x m => ht x (.tail _ m)) (fun x m => he x (.tail _ m)) (by simp; omega) ?_
      simpa [List.filter_cons, hp] using q
    · rw [if_neg hp, wipe_set hw]
      refine lcL_pure p f hv hw ds _ (fun x m => ht x (.tail _ m)) (fun x m => he x (.tail _ m)) (by omega) ?_
      simpa [List.filter_cons, hp] using q
theorem while_inv {c : BF} {b : SF} {N : DN} (I : Nat → En → Prop)
    (h : ∀ n e (N' : DN), I n e → (∀ m e', m < n → I m e' → N'.nx e' ∧ N'.ct e') → N'.bk = N.nx → N'.rt = N.rt → N'.ex = N.ex → c e (fun k e1 => if k = true then b N' e1 else N.nx e1) N.ex) {n : Nat} {e : En} (i : I n e) : sWhile c b N e := by
  have key : ∀ (n m : Nat) (e : En), m ≤ n → I m e → whN c b (n + 1) N e := by
    intro n
    induction n with
    | zero =>
      intro m e l i
      refine h m e _ i (fun m' e' l' _ => absurd l' (by omega)) rfl rfl rfl
    | succ n ih =>
      intro m e l i
      exact h m e _ i (fun m' e' l' i' => ⟨ih m' e' (by omega) i', ih m' e' (by omega) i'⟩) rfl rfl rfl
  exact ⟨n + 1, key n n e (Nat.le_refl _) i⟩

/-! comparisons of ints -/
theorem lt_int (i j : Int) : ltD (.int i) (.int j) = decide (i < j) := PySem.W.dataLt_int i j
theorem cmp_int (i j : Int) : Cmpb (.int i) (.int j) := ⟨rfl, rfl, rfl, nofun⟩
end Mf
set_option Elab.async false
set_option linter.all false
set_option maxHeartbeats 1000000
/-! x.m(..) whose arguments look at x. -/
namespace Mf
open PySem PySem.Spec PyProof.Rows L2
def dMthA (T : String) (m : MF) (i : Nat) (fr : AF) : DF := fun env Q E => onS (getS env i) fun d => tyD T d = true ∧ fr env (fun ds e1 => onS (getS e1 i) fun d => m d ds fun z d' => Q z (setS e1 i d')) E
theorem set_clr (e : En) (i : Nat) (d : D) : setS (clrS e i) i d = setS e i d := by simp [setS, clrS, List.set_set]
section
variable {X : Cx} {W : WX} {T id : String} {name x : Str} {m : MF} {fr : AF} {e : Expr} {es : List Expr} {i : Nat} {xp apos cpos : Pos}
theorem de_mthA (pa : PlainAttrs T) (slot : Slot T name id) (hty : typeOf (.builtin id) = pure (.type "method_descriptor")) (hm : MutD X id m) (ha : DA X W (e :: es) fr) (hN : X.N[i]? = some x := by rfl)
    (hv : Vis X.env.scope x := by first | exact Or.inl rfl | exact Or.inr (Or.inl rfl) | exact Or.inr (Or.inr rfl))
    (hd : (x == ("__debug__" : Str)) = false := by decide) (hcd : (x == ("__classdict__" : Str)) = false := by decide)
    (hbase : attributeBase (.Name x xp) name X.env (eval (.Name x xp) X.env) = eval (.Name x xp) X.env := by rfl)
    (hfew : ((backTo cpos (starEach (e :: es) X.env)).all (fun x => !x.1) && (backToKw cpos (keywordEach [] X.env)).all (fun x => x.1.isSome)
      && decide ((e :: es).length + ([] : List Keyword).length + (if ([] : List Keyword).isEmpty then 0 else 1) < 30)) = true := by rfl)
    (hline : (apos.endLine == cpos.line) = true := by rfl) (hs : starEach (e :: es) X.env = (false, eval e X.env) :: starEach es X.env := by rfl) (hplain : (backTo cpos (starEach es X.env)).any (·.1) = false := by rfl) :
    DE X W (.Call (.Attribute (.Name x xp) name apos) (e :: es) [] cpos) (dMthA T m i fr) := by
  obtain ⟨r, hr, km⟩ := hm.ex
  obtain ⟨ta, pa', ka⟩ := ha.ex
  refine ⟨_, pe_bm pa slot hty hr (pe_var hN hv hd hcd) pa' hbase hfew hline hs hplain, fun σ H env F R Q E Q' s f k xk => ?_⟩
  obtain ⟨d, e0, ty, f1⟩ := onS_some f
  obtain ⟨v, e1, s1⟩ := s.take (getS_some e0)
  obtain ⟨A, rx⟩ := s1.abs.head
  refine ⟨v, e1, tyD_ok s1.same ty rx, ?_⟩
  refine ka σ H env F R _ E _ s f1 (fun vs ds e2 H2 F2 s2 l st0 f2 => ?_) xk
  obtain ⟨d2, e3, f2⟩ := onS_some f2
  obtain ⟨v2, e4, st⟩ := st0.take (getS_some e3)
  have ev : v2 = v := by
    rw [e1] at e4
    exact (Option.some.inj (Option.some.inj e4)).symm
  subst ev
  have lenS : i < e2.sl.length := (List.getElem?_eq_some_iff.mp (getS_some e3)).1
  obtain ⟨rs', sl, ab⟩ := st
  have pq : (rs' ++ (stR e2.st ++ ((v2, d2) :: (vs.zip ds ++ R)))).Perm ((v2, d2) :: (vs.zip ds ++ (R ++ (rs' ++ stR e2.st)))) := by
    rw [← List.append_assoc]
    refine List.perm_middle.trans (List.Perm.cons _ ?_)
    refine List.perm_append_comm.trans ?_
    rw [List.append_assoc]
  refine km F2 H2 v2 d2 vs ds [] _ _ Q' l (ab.perm pq) f2 fun z dz d' F3 H3 s3 _ ab3 qz => ?_
  refine k z dz (setS e2 i d') H3 F3 (s2.trans s3) ?_ qz
  have st3 : StA (tx X) F3 H3 σ (clrS e2 i) [] ((v2, d') :: (z, dz) :: R) := ⟨rs', sl, ab3.perm (by
    refine (List.Perm.swap ..).trans ?_
    show ((v2, d') :: (z, dz) :: R ++ (rs' ++ stR e2.st)).Perm (rs' ++ (stR e2.st ++ ((v2, d') :: (z, dz) :: R)))
    rw [← List.append_assoc rs']
    exact List.perm_append_comm (l₁ := (v2, d') :: (z, dz) :: R) (l₂ := rs' ++ stR e2.st))⟩
  have hl : i < (clrS e2 i).sl.length := by
    show i < (e2.sl.set i none).length
    rw [List.length_set]
    exact lenS
  have st4 := StA.put (i := i) st3 hl
  rw [set_self e1] at st4
  have eq : ({ sl := (clrS e2 i).sl.set i (some d'), st := (clrS e2 i).st } : En) = setS e2 i d' := set_clr e2 i d'
  rwa [eq] at st4
end
end Mf
set_option Elab.async false
set_option linter.all false
set_option maxHeartbeats 1000000
/-! An expression that borrows all that stands: it sees it frozen, its answer is plain, nothing changes. -/
namespace Mf
open PySem PySem.Spec PyProof.Rows L2
def fzR (rs : Rs) : Rs := rs.map fun p => (p.1, fz p.2)
theorem SlotR.frozen {σ : L2.St} {sl : List (Option D)} {rs : Rs} (h : SlotR σ sl rs) : SlotR σ (sl.map (Option.map fz)) (fzR rs) := by
  induction h with
  | nil => exact .nil
  | skip _ ih => exact .skip ih
  | cons _ ih => exact .cons ih
theorem RL.frozen {T : Tx} {F F' H : Hp} (hF : Same F F') : ∀ {rs : Rs} {A : List Addr}, RL T F H rs A → (∀ b ∈ A, F' b = H b) → RL T F' H (fzR rs) []
  | _, _, .nil, _ => .nil
  | _, _, .cons r1 r2, h => .cons (A := []) (B := []) (r1.freeze hF fun b m => h b (List.mem_append_left _ m)) (RL.frozen hF r2 fun b m => h b (List.mem_append_right _ m))
def fzE (env : En) : En := ⟨env.sl.map (Option.map fz), []⟩
def dBor (fe : DF) : DF := fun env Q _ => fe (fzE env) (fun r _ => flatD r = true ∧ Q r env) EN
section
variable {X : Cx} {W : WX} {e : Expr} {fe : DF}
theorem de_bor (he : DE X W e fe) : DE X W e (dBor fe) := by
  obtain ⟨t, pe, k⟩ := he.ex
  refine ⟨t, pe, fun σ H env F R Q E Q' s f q xk => ?_⟩
  obtain ⟨rs, sl, ab⟩ := s
  obtain ⟨B, rb, nd, fr⟩ := ab.own
  rw [List.nil_append] at nd fr
  obtain ⟨A1, A2, rfl, r1, r2⟩ := RL.split rb
  obtain ⟨_, nd2, dj⟩ := List.nodup_append.mp nd
  open Classical in
  let F2 : Hp := fun b => if b ∈ A1 then H b else F b
  have s12 : Same F F2 := fun b o z => by
    show (if b ∈ A1 then H b else F b) = some o
    split
    · exact ab.same _ _ z
    · exact z
  have s2H : Same F2 H := fun b o z => by
    have z : (if b ∈ A1 then H b else F b) = some o := z
    split at z
    · exact z
    · exact ab.same _ _ z
  have rf : RL (tx X) F2 H (fzR rs) [] := RL.frozen s12 r1 fun b m => if_pos m
  have live : ∀ b ∈ A2, ∃ o, H b = some o := fun b m => r2.live m
  have ab2 : Abs (tx X) F2 H [] (fzR rs ++ (stR [] ++ raws H A2)) := by
    refine ⟨s2H, (fun b m => nomatch m), [] ++ A2, rf.app (raws_rl live), by simpa using nd2, fun b m => ?_⟩
    have m : b ∈ A2 := by simpa using m
    show (if b ∈ A1 then H b else F b) = none
    rw [if_neg fun z => dj b z b m rfl]
    exact fr b (List.mem_append_right _ m)
  refine k σ H (fzE env) F2 (raws H A2) _ EN Q' ⟨fzR rs, sl.frozen, ab2⟩ f (fun v d env' H' F' s' st' z => ?_) ExK.no
  obtain ⟨qb, qq⟩ := z
  obtain ⟨rs3, sl3, ab3⟩ := st'
  obtain ⟨C, rc, _, _⟩ := ab3.own
  obtain ⟨_, C1, rfl, _, rc⟩ := RL.split rc
  obtain ⟨_, C2, rfl, _, rc2⟩ := RL.split rc
  clear rc
  obtain ⟨Ad, rd⟩ : ∃ A, RO (tx X) F' H' v d A := by
    cases rc2 with
    | cons rd _ => exact ⟨_, rd⟩
  obtain ⟨Bd, rc3⟩ : ∃ B, RL (tx X) F' H' (raws H A2) B := by
    cases rc2 with
    | cons _ r => exact ⟨_, r⟩
  have same1 := raws_same live rc3
  have sameB : ∀ b ∈ A1 ++ A2, H' b = H b := fun b m => by
    rcases List.mem_append.mp m with m | m
    · obtain ⟨o, e⟩ := r1.live m
      rw [e]
      exact ab3.same _ _ (s' _ _ (show (if b ∈ A1 then H b else F b) = some o from by rw [if_pos m]; exact e))
    · exact same1 b m
  have sFH : Same F H' := fun b o z => ab3.same _ _ (s' _ _ (s12 _ _ z))
  have abF : Abs (tx X) F H' [] (rs ++ (stR env.st ++ R)) := ⟨sFH, (fun b m => nomatch m), A1 ++ A2, (r1.app r2).keep sameB, by simpa using nd, by simpa using fr⟩
  exact q v d env H' F (Same.refl F) (StA.push ⟨rs, sl, abF⟩ (flat_ro qb rd)) qq
/-- frozen as soon as it is made -/
def dFz (fe : DF) : DF := fun env Q E => fe env (fun d e1 => Q (fz d) e1) E
theorem de_fz (he : DE X W e fe) : DE X W e (dFz fe) := by
  obtain ⟨t, p, k⟩ := he.ex
  refine ⟨t, p, fun σ H env F R Q E Q' s f q xk => k σ H env F R _ _ _ s f (fun v d e1 H1 F1 s1 st1 q1 => ?_) xk⟩
  obtain ⟨F2, s2, st2⟩ := st1.freeze
  exact q _ _ _ _ F2 (s1.trans s2) st2 q1
end
end Mf
set_option Elab.async false
set_option linter.all false
set_option maxHeartbeats 1000000
/-! an address is told; two readings of one body; d.pop(text); a call that may change its borrowed argument and brings it back -/
namespace Mf
open PySem PySem.Spec PyProof.Rows L2
def tagD (a : Addr) : D → D
  | .lst .frz xs => .lst (.tag a) xs
  | .dct .frz xs => .dct (.tag a) xs
  | d => d
/-- from here on the address of a slot's frozen thing is told -/
def sTag (i : Nat) (f : SF) : SF := fun N env => onS (getS env i) fun d => ∀ a, f N (setS env i (tagD a d))
def sEither (f g : SF) : SF := fun N env => f N env ∨ g N env
section
variable {X : Cx} {W : WX}
def adrV : V → Addr
  | .ref a => a
  | _ => (0 : Nat)
theorem ro_tag {T : Tx} {F H : Hp} {v : V} {d : D} {A : List Addr} (r : RO T F H v d A) : RO T F H v (tagD (adrV v) d) A := by
  cases r with
  | @lstF a vs ds m f e r =>
    cases m with
    | own => exact f.elim
    | frz => exact .lstF (m := .tag a) rfl e r
    | tag b => exact .lstF (m := .tag b) f e r
  | @dctF a vs ds m f e k r =>
    cases m with
    | own => exact f.elim
    | frz => exact .dctF (m := .tag a) rfl e k r
    | tag b => exact .dctF (m := .tag b) f e k r
  | _ => constructor <;> assumption
theorem Abs.tagH {T : Tx} {F H : Hp} {L : List Addr} {v : V} {d : D} {rs : Rs} (h : Abs T F H L ((v, d) :: rs)) : Abs T F H L ((v, tagD (adrV v) d) :: rs) := by
  obtain ⟨A, r, nd, f⟩ := h.own
  cases r with
  | cons r q => exact ⟨h.same, h.res, _, .cons (ro_tag r) q, nd, f⟩
theorem db_tag {body : List Stmt} {f : SF} (i : Nat) (h : DB X W body f) : DB X W body (sTag i f) := by
  obtain ⟨t, p, k⟩ := h.ex
  refine ⟨t, p, fun σ H env F R N D' s f z x => ?_⟩
  obtain ⟨d, e, f⟩ := onS_some f
  obtain ⟨v, e1, s1⟩ := s.take (getS_some e)
  have s2 : StA (tx X) F H σ _ [] ((v, tagD (adrV v) d) :: R) := s1.lift fun _ k => k.tagH
  have s3 := StA.back s2 (List.getElem?_eq_some_iff.mp (getS_some e)).1 e1
  exact k σ H _ F R N D' s3 (f _) z x
theorem db_either {body : List Stmt} {f g : SF} (hf : DB X W body f) (hg : DB X W body g) : DB X W body (sEither f g) := by
  obtain ⟨t1, p1, k1⟩ := hf.ex
  obtain ⟨t2, p2, k2⟩ := hg.ex
  exact ⟨fun D σ H => t1 D σ H ∨ t2 D σ H, ⟨fun pins s σ H D I h => h.elim (fun h => p1.run pins s σ H D I h) fun h => p2.run pins s σ H D I h⟩,
    fun σ H env F R N D' s f z x => f.elim (fun f => .inl (k1 σ H env F R N D' s f z x)) fun f => .inr (k2 σ H env F R N D' s f z x)⟩
/-- d.pop(text), of the one entry -/
def mDPop : MF := fun d as Q => match d, as with
  | .dct .own [(k, .int i)], [.str s] => k = .inr s ∧ Q (.int i) (.dct .own [])
  | _, _ => False
def rDPop : V → List V → Hp → VK → Prop := fun x xs H Q => ∃ (a : Addr) (kvs : List (Key × V)) (k : Key) (v : V), x = .ref a ∧ xs = [kV k] ∧ H a = some (.dK kvs) ∧ valV kvs k = some v ∧ Q v (upd H a (.dK (dropK kvs k)))
theorem mt_dpop : MtR X "dict.pop" rDPop := by
  intro pins s σ H x xs v us Q I rx rxs h
  obtain ⟨a, kvs, k, w, rfl, rfl, ha, hv, q⟩ := h
  cases rx
  cases rxs with
  | cons r1 r2 =>
    cases r2
    exact d_pop I ha r1 hv (.inl rfl) fun w' s' I' r' => ⟨w, _, I', r', q⟩
theorem mu_dpop : MutD X "dict.pop" mDPop := by
  refine ⟨_, mt_dpop, fun F H x dx vs ds L R Q Q' l h hm q => ?_⟩
  match dx, ds, hm with
  | .dct .own [(k, .int i)], [.str s], hm =>
    obtain ⟨w, rfl⟩ := List.length_eq_one_iff.mp l
    obtain ⟨rfl, hm⟩ := hm
    have rw' := (h.tail).head0 (show nown (D.str s) = true from rfl)
    have ew : w = .str s := (rw'.str_inv).1
    subst ew
    obtain ⟨A, r, nd, f⟩ := h.own
    cases r with
    | @cons _ _ A1 _ B r rest =>
    cases r with
    | dctF f0 _ _ _ => exact f0.elim
    | @dctO a kvs _ A2 ha hk r =>
      match kvs, hk, r with
      | [(k', v')], hk, r =>
        have e1 : k' = .inr s := by simpa using hk
        subst e1
        cases r with
        | cons r1 r2 =>
        cases r2
        cases r1
        refine ⟨a, _, .inr s, .int i, rfl, rfl, ha, by simp [valV], ?_⟩
        have nd' : (a :: (L ++ B)).Nodup := (List.perm_middle (a := a) (l₁ := L) (l₂ := B)).nodup_iff.mp (by simpa using nd)
        have na := (List.nodup_cons.mp nd').1
        have fa : F a = none := f a (by simp)
        have ne : ∀ b, b ∈ L ++ B → b ≠ a := fun b m z => na (z ▸ m)
        have up : ∀ o, ∀ b, b ∈ L ++ B → upd H a o b = H b := fun o b m => upd_ne (ne b m)
        have e0 : dropK [((.inr s : Key), V.int i)] (.inr s) = [] := by simp [dropK]
        rw [e0]
        refine q _ (.int i) _ F _ (Same.refl _) (fun b m => up _ b (List.mem_append_left _ m)) ?_ hm
        cases rest with
        | @cons _ _ A3 _ B3 rs1 rest =>
        cases rs1
        refine ⟨fun b u e => ?_, fun b m => ?_, _, .cons (.int i) (.cons (.dctO (kvs := []) upd_same rfl .nil) (rest.keep fun b m => up _ b (List.mem_append_right _ (by simpa using m)))), by simpa using nd, by simpa using f⟩
        · rw [upd_ne fun z => by rw [z, fa] at e; cases e]
          exact h.same _ _ e
        · rw [up _ b (List.mem_append_left _ m)]
          exact h.res b m
def valD : D → V
  | .bl b => .bl b
  | .int i => .int i
  | .str x => .str x
  | _ => .non
theorem flat_val {T : Tx} {F H : Hp} {v : V} {d : D} {A : List Addr} (h : flatD d = true) (r : RO T F H v d A) : v = valD d := by
  cases r <;> first | rfl | simp [flatD] at h
theorem flat_vals {T : Tx} {F H : Hp} : ∀ {vs : List V} {ds : List D} {A : List Addr}, ds.all flatD = true → ROs T F H vs ds A → vs = ds.map valD
  | _, _, _, _, .nil => rfl
  | _, _, _, h, .cons r q => by
    rw [List.all_cons, Bool.and_eq_true] at h
    rw [List.map_cons, flat_val h.1 r, flat_vals h.2 q]
theorem flat_ros {T : Tx} {F H F' H' : Hp} : ∀ {vs : List V} {ds : List D} {A : List Addr}, ds.all flatD = true → ROs T F H vs ds A → ROs T F' H' vs ds []
  | _, _, _, _, .nil => .nil
  | _, _, _, h, .cons r q => by
    rw [List.all_cons, Bool.and_eq_true] at h
    exact .cons (A := []) (B := []) (flat_ro h.1 r) (flat_ros h.2 q)
def dFnT (d : DSp) (gr : PAF) : DF := fun env Q _ => gr env fun ds =>
  (∃ a xs, ds = [.lst (.tag a) xs, .lst (.tag a) xs] ∧ xs.all flatD = true ∧ d [.ptr a, .ptr a] [(a, .lst .own xs)] (fun r st' => flatD r = true ∧ st' = [(a, .lst .own xs)] ∧ Q r env) fun _ _ => False) ∨
  (∃ a, ds = [.dct (.tag a) [], .dct (.tag a) []] ∧ d [.ptr a, .ptr a] [(a, .dct .own [])] (fun r st' => flatD r = true ∧ st' = [(a, .dct .own [])] ∧ Q r env) fun _ _ => False) ∨
  ds.all flatD = true ∧ d ds [] (fun r st' => flatD r = true ∧ st' = [] ∧ Q r env) fun _ _ => False
variable {k n : Nat} {x : Str} {d : DSp} {p pos : Pos} {e : Expr} {es : List Expr} {gr : PAF}
theorem de_fnT (F : FnD X.prog X.w X.K X.mg X.base k x n d) (hgd : X.A.guards = some []) (hr : Room k X.A) (hg : Gl X x) (ps : Pss X W) (ha : DPA X (e :: es) gr) (hdb : (x == ("__debug__" : Str)) = false := by decide)
    (he : starEach (e :: es) X.env = (false, eval e X.env) :: starEach es X.env := by rfl) (hpl : (backTo pos (starEach es X.env)).any (·.1) = false := by rfl) : DE X W (.Call (.Name x p) (e :: es) [] pos) (dFnT d gr) := by
  obtain ⟨len, f, fd, pl, en, F, hm, hk, hb⟩ := F
  obtain ⟨t, pa, ka⟩ := ha.ex
  refine ⟨_, pe_callG (E := WE W) F hgd hr hg hm hk hb ps pa hdb he hpl, fun σ H env F R Q E Q' s f q xk => ?_⟩
  refine ka σ H env F R _ _ s f fun vs ds A H1 F1 g1 ra f1 => ?_
  have s1 := s.gr g1
  obtain ⟨rs, sl, ab⟩ := s1
  obtain ⟨B, rb, nd, fr⟩ := ab.own
  rw [List.nil_append] at nd fr
  have core : ∀ (ds' : List D) (st0 : Sto) (A0 : List Addr) (F2 : Hp), vs.length = ds'.length → d ds' st0 (fun r st' => flatD r = true ∧ st' = st0 ∧ Q r env) (fun _ _ => False) → Same F2 H1 → RL (tx X) F2 H1 (vs.zip ds' ++ stR st0) A0 → (A0 ++ B).Nodup → (∀ b ∈ A0, F2 b = none) → (∀ b, b ∉ A0 → F2 b = F1 b) →
      (∀ F' H' A', RL (tx X) F' H' (stR st0) A' → ∀ b ∈ A0, H' b = H1 b) → toSp (tx X) n d vs H1 Q' (WE W σ) := by
    intro ds' st0 A0 F2 l2 fd' s2H rl0 nd0 no0 of0 back0
    have ab2 : Abs (tx X) F2 H1 [] (vs.zip ds' ++ (stR st0 ++ raws H1 B)) := by
      refine ⟨s2H, (fun b m => nomatch m), A0 ++ B, by rw [← List.append_assoc]; exact rl0.app (raws_rl fun b m => rb.live m), by simpa using nd0, fun b m => ?_⟩
      rcases List.mem_append.mp (by simpa using m : b ∈ A0 ++ B) with m | m
      · exact no0 b m
      · by_cases hA : b ∈ A0
        · exact no0 b hA
        · rw [of0 b hA]
          exact fr b m
    refine ⟨l2.trans (len _ _ _ _ fd'), F2, ds', st0, raws H1 B, _, _, l2, ab2, fd', fun v r st' H' F' s' ab' z => ?_, fun cls dd x' st' H' F' s' ab' rx q' => (show False from q').elim⟩
    obtain ⟨qb, est, qq⟩ := z
    subst est
    obtain ⟨C, rc, _, _⟩ := ab'.tail.own
    obtain ⟨C1, C2, rfl, rc1, rc2⟩ := RL.split rc
    have same1 := raws_same (fun b m => rb.live m) rc2
    have same0 := back0 F' H' C1 rc1
    have sFH : Same F1 H' := fun b o z => by
      by_cases hA : b ∈ A0
      · rw [same0 b hA]
        exact ab.same _ _ z
      · exact ab'.same _ _ (s' _ _ (by rw [of0 b hA]; exact z))
    have abF : Abs (tx X) F1 H' [] (rs ++ (stR env.st ++ R)) := ⟨sFH, fun b m => (by simp at m), B, rb.keep same1, by simpa using nd, by simpa using fr⟩
    obtain ⟨D, rd⟩ := ab'.head
    exact q v r env H' F1 g1.f (StA.push ⟨rs, sl, abF⟩ (flat_ro qb rd)) qq
  have one : ∀ (a : Addr) (o : HO) (dd : D), F1 a = some o → vs = [.ref a, .ref a] → (∀ F' H', H' a = some o → RO (tx X) F' H' (.ref a) dd [a]) → (∀ F' H' A', RO (tx X) F' H' (.ref a) dd A' → H' a = some o) → d [.ptr a, .ptr a] [(a, dd)] (fun r st' => flatD r = true ∧ st' = [(a, dd)] ∧ Q r env) (fun _ _ => False) → toSp (tx X) n d vs H1 Q' (WE W σ) := by
    intro a o dd ea ev mk bk f1
    open Classical in
    refine core [.ptr a, .ptr a] [(a, dd)] [a] (fun b => if b = a then none else F1 b) (by rw [ev]; rfl) f1 (fun b o z => ?_) (by rw [ev]; exact .cons (A := []) (.ptr a) (.cons (A := []) (.ptr a) (.cons (A := [a]) (B := []) (mk _ _ (ab.same _ _ ea)) .nil))) (List.nodup_cons.mpr ⟨fun m => (by have := fr a m; rw [ea] at this; cases this), nd⟩) (fun b m => by rw [List.mem_singleton.mp m]; exact if_pos rfl) (fun b m => if_neg fun z => m (by simp [z])) (fun F' H' A' r b m => ?_)
    · have z : (if b = a then none else F1 b) = some o := z
      split at z
      · cases z
      · exact ab.same _ _ z
    · rw [List.mem_singleton.mp m, ab.same _ _ ea]
      cases r with
      | cons r _ => exact bk _ _ _ r
  rcases f1 with ⟨a, xs, rfl, hf, f1⟩ | ⟨a, rfl, f1⟩ | ⟨hf, f1⟩
  · cases ra with
    | cons r1 r2 =>
    cases r2 with
    | cons r2 r3 =>
    cases r3
    cases r1 with
    | lstF m1 e1 q1 =>
    cases r2 with
    | lstF m2 e2 q2 =>
    cases m1
    cases m2
    refine one _ _ _ e1 rfl (fun F' H' z => .lstO z (flat_ros hf q1)) (fun F' H' A' r => ?_) f1
    cases r with
    | lstF m _ _ => exact m.elim
    | lstO e r => rw [e, flat_vals hf r, ← flat_vals hf q1]
  · cases ra with
    | cons r1 r2 =>
    cases r2 with
    | cons r2 r3 =>
    cases r3
    cases r1 with
    | @dctF _ kvs _ _ m1 e1 k1 q1 =>
    cases r2 with
    | dctF m2 e2 k2 q2 =>
    cases m1
    cases m2
    have ek : kvs = [] := by simpa using k1
    subst ek
    refine one _ _ _ e1 rfl (fun F' H' z => .dctO z rfl .nil) (fun F' H' A' r => ?_) f1
    cases r with
    | dctF m _ _ _ => exact m.elim
    | dctO e k r =>
      rw [e]
      have := List.map_eq_nil_iff.mp k
      rw [this]
  · have r2 := flat_ros (F' := F1) (H' := H1) hf ra
    exact core ds [] [] F1 r2.len f1 ab.same (by rw [show stR ([] : Sto) = [] from rfl, List.append_nil]; exact (RL.of_zip r2).2) (by simpa using nd) (fun b m => nomatch m) (fun b _ => rfl) fun _ _ _ _ b m => nomatch m
end
end Mf
set_option Elab.async false
set_option linter.all false
set_option maxHeartbeats 1000000
/-! repr, also of a dict of one entry -/
namespace Mf
open PySem PySem.Spec PyProof.Rows L2
def oneOf : D → Option (Str × Int)
  | .dct _ [(.inr s, .int i)] => some (s, i)
  | _ => none
def oneR (p : Str × Int) : PyData := .dict [(.str p.1, .int p.2)]
def OneOk (p : Str × Int) : Prop := (oneR p).showable = true ∧ (oneR p).shown.length ≤ sizeLine
def cReprX : CF := c1 fun x Q => (ReprOk x ∧ Q (.str (shD x))) ∨ ∃ p, oneOf x = some p ∧ OneOk p ∧ Q (.str (oneR p).shown)
section
variable {X : Cx}
theorem one_reads {pins : List (Addr × Obj)} {s : Shared} {σ : L2.St} {H : Hp} {a : Addr} {x : Str} {i : Int} (I : Inv X pins σ H s) (e : H a = some (.dK [(.inr x, .int i)])) : (a == sysModules) = false ∧ Reads s.heap (.ref a) (oneR (x, i)) [a] := by
  obtain ⟨_, z, vs, kv, o, es, n, h1, h2, h3, h4, h5, h6⟩ := dk_of I.hok e
  refine ⟨z, ?_⟩
  cases kv with
  | @cons _ p _ _ k1 kv =>
  cases kv
  obtain ⟨k, u⟩ := p
  generalize hes : es.toList = el at h5
  cases h5 with
  | @cons en _ es' _ a1 a2 h5 =>
  cases h5
  have ek := k1.1
  have ev := k1.2
  dsimp only at ek ev a1 a2
  subst ek
  obtain ⟨t, rfl⟩ := (show ∃ t, u = Value.int i t from ev)
  rcases keyIs_shape (show keyIs (.inr x) en.key = true from a1) with ⟨j, t', e1, e2⟩ | ⟨y, t', e1, e2⟩
  · cases e1
  · cases e1
    refine .dict (kvs := [(.str x, .int i)]) (as := []) (bs := []) h1 h2.1 h3 ?_ ?_
    · rw [hes]
      show ReadsAll _ [en.key] [.str x] []
      rw [e2]
      exact .cons (as := []) (bs := []) (.str x t') .nil
    · rw [hes]
      show ReadsAll _ [en.val] [.int i] []
      rw [a2]
      exact .cons (as := []) (bs := []) (.int i t) .nil
theorem one_ref {pins : List (Addr × Obj)} {s : Shared} {σ : L2.St} {F H : Hp} {v : V} {u : Value} {d : D} {A : List Addr} {Q : VK} {p : Str × Int} (hgd : X.A.guards = some []) (hu : X.A.units + 100 < cLine) (I : Inv X pins σ H s) (hS : Same F H) (r : RO (tx X) F H v d A) (rv : RelV v u) (ho : oneOf d = some p) (ok : OneOk p)
    (q : Q (.str (oneR p).shown) H) : wpAny (model X.prog X.w) X.A (call (.builtin "repr") [u]) (EP X pins σ Q) X.xe s := by
  obtain ⟨x, i⟩ := p
  obtain ⟨hs, hz⟩ := ok
  have key : ∃ a, v = .ref a ∧ H a = some (.dK [(.inr x, .int i)]) := by
    match d, ho, r with
    | .dct m [(.inr x', .int i')], ho, r =>
      cases ho
      have fin : ∀ {kvs : List (Key × V)} {A : List Addr}, kvs.map (·.1) = [(.inr x : Key)] → ROs (tx X) F H (kvs.map (·.2)) [D.int i] A → kvs = [(.inr x, .int i)] := fun {kvs A} k r => by
        match kvs, k, r with
        | [(k', v')], k, r =>
          have : k' = .inr x := by simpa using k
          subst this
          cases r with
          | cons r1 _ => cases r1; rfl
      cases r with
      | dctO e k r3 => exact ⟨_, rfl, by rw [e, fin k r3]⟩
      | dctF _ e k r3 => exact ⟨_, rfl, by rw [hS _ _ e, fin k r3]⟩
  obtain ⟨a, rfl, e⟩ := key
  cases rv
  obtain ⟨z, rd⟩ := one_reads I e
  have dp : (oneR (x, i)).depth ≤ 10 := by
    show PyData.depth (.dict [(.str x, .int i)]) ≤ 10
    simp [PyData.depth, PyData.depthKv]
  refine PySem.repr_of_reads' rd hs (fun _ m => ?_) hgd (by omega) (fun _ _ h => h) (fun h' u tk hk => ⟨.str _, H, I.kept hk, ⟨_, rfl⟩, q⟩) hz
  have e : sysModules = a := by simpa using m
  rw [e] at z
  simp at z
theorem cd_reprX (hgd : X.A.guards = some []) (hu : X.A.units + 100 < cLine) : CallD X (.builtin "repr") cReprX := by
  open Classical in
  refine CallD.flat (fun ds => match ds with
    | [x] => if ReprOk x then some (.str (shD x)) else if OneOk ((oneOf x).getD (Str.empty, 0)) ∧ (oneOf x).isSome = true then some (.str (oneR ((oneOf x).getD (Str.empty, 0))).shown) else none
    | _ => none) (fun pins s σ F H vs us ds z A Q I hS r rv hg q => ?_) fun ds Q h => ?_
  · match ds, r, hg with
    | [x], r, hg =>
      obtain ⟨v, rfl, r1⟩ := r.one
      obtain ⟨u, rfl, rv1⟩ := vals1 rv
      simp only at hg
      split at hg
      · rename_i ok
        cases hg
        exact repr_ref hgd hu I hS r1 rv1 ok (q _ (.str _))
      · split at hg
        · rename_i ok
          obtain ⟨ok, so⟩ := ok
          obtain ⟨p, ep⟩ := Option.isSome_iff_exists.mp so
          rw [ep] at hg ok
          cases hg
          exact one_ref hgd hu I hS r1 rv1 ep ok (q _ (.str _))
        · cases hg
  · match ds, h with
    | [x], h =>
      by_cases c : ReprOk x
      · rcases h with h | ⟨p, e1, e2, h⟩
        · exact ⟨_, if_pos h.1, h.2⟩
        · exfalso
          match x, e1, c with
          | .dct m [(.inr s, .int i)], e1, c =>
            rcases c.1 with c | c
            · simp [Pl] at c
            · simp [emptyD] at c
      · rcases h with h | ⟨p, e1, e2, h⟩
        · exact absurd h.1 c
        · refine ⟨_, (if_neg c).trans (if_pos ?_), ?_⟩
          · rw [e1]; exact ⟨e2, rfl⟩
          · rw [e1]; exact h
end
end Mf
set_option Elab.async false
set_option linter.all false
set_option maxHeartbeats 1000000
/-! a dict beside a text: == is False -/
namespace Mf
open PySem PySem.Spec PyProof.Rows L2
theorem dict_declines (l : Addr) (es : Array DictEntry) (n : Nat) (dd : Option Addr) (sl : Array (Option Value)) (b : Str) (u : Tok) :
    Meets (Builtin.«dict.__eq__» ⟨[.ref l, .str b u], []⟩) (fun _ R s => s.heap.get? l = some { cls := .type "dict", dict := dd, data := .dict es n, slots := sl } ∧ R (.ok (.ret .notImplemented)) s) :=
  .of_wp fun prog w A R s h => by
    obtain ⟨hp, g, d, tk, os⟩ := s
    obtain ⟨hl, h⟩ := h
    have f1 := F.sub_str_dict
    wp_walk using wpAny_loadPart' hl, wpAny_load hl
    exact ⟨_, rfl, h⟩
theorem str_declines (b : Str) (u : Tok) (l : Addr) (c : Value) (es : Array DictEntry) (n : Nat) (dd : Option Addr) (sl : Array (Option Value)) :
    Meets (Builtin.«str.__eq__» ⟨[.str b u, .ref l], []⟩) (fun _ R s => s.heap.get? l = some { cls := c, dict := dd, data := .dict es n, slots := sl } ∧ R (.ok (.ret .notImplemented)) s) :=
  .of_wp fun prog w A R s h => by
    obtain ⟨hp, g, d, tk, os⟩ := s
    obtain ⟨hl, h⟩ := h
    wp_walk using wpAny_loadPart' hl, wpAny_load hl
    exact ⟨_, rfl, h⟩
theorem rc_dict_str {A : Around} {s : Shared} {a : Addr} {o : Obj} {es : Array DictEntry} {n : Nat} (ho : s.heap.get? a = some o) (hc : o.cls = .type "dict") (hd : o.data = .dict es n) (b : Str) (u : Tok) (hu : A.units < cLine) : SeqAt.RcAt A s (.ref a) (.str b u) false := fun prog w E Q h => by
  obtain ⟨cls, dd, data, sl⟩ := o
  simp only at hc hd
  subst hc hd
  exact SeqAt.rc_eq_decline_or (k := false) ⟨_, ho, rfl⟩ (typeIs_str s b u) (by decide) F.sub_str_dict F.slot_dict_eq F.slot_str_eq_refl
    (fun _ hq => call_meets F.slot_dict_eq ⟨_, ho, rfl⟩ F.entry_dict_eq (F.args_dict_eq_2 _ _) (dict_declines a es n dd sl b u) ⟨ho, hq⟩)
    (fun _ hq => call_meets F.slot_str_eq_refl (typeIs_str s b u) F.entry_str_eq (F.args_str_eq_2 _ _) (str_declines b u a (.type "dict") es n dd sl) ⟨ho, hq⟩)
    (fun _ hq => wpAny_of_eq (rfl : isSame (.ref a) (.str b u) = pure false) hq) (.inr hu) h
def dsD : D → D → Option D
  | .dct _ _, .str _ => some (.bl false)
  | _, _ => none
def oEqX : OpF := fun x y Q => oEq x y Q ∨ (dsD x y).isSome = true ∧ Q (.bl false)
section
variable {X : Cx}
theorem od_eqX (hu : X.A.units + 100 < cLine) : OpD X (compareOp .Eq) oEqX := by
  refine OpD.or (od_eq hu) (OpD.flat (r := fun x y Q => (dsD x y).isSome = true ∧ Q (.bl false)) dsD (fun pins s σ F H x y dx dy z A B v u Q I hS r1 r2 rx ry hg q => ?_) fun x y Q h => ?_) fun x y Q h => h
  · match dx, dy, r1, r2, hg with
    | .dct m kvs, .str b, r1, r2, hg =>
      cases hg
      obtain ⟨rfl, rfl⟩ := r2.str_inv
      obtain ⟨t, rfl⟩ := (show ∃ t, u = Value.str b t from ry)
      have key : ∃ a ks, x = .ref a ∧ H a = some (.dK ks) := by
        cases r1 with
        | dctO e _ _ => exact ⟨_, _, rfl, e⟩
        | dctF _ e _ _ => exact ⟨_, _, rfl, hS _ _ e⟩
      obtain ⟨a, ks, rfl, e⟩ := key
      cases rx
      obtain ⟨_, _, vs, _, o, es, n, h1, h2, h3, _⟩ := dk_of I.hok e
      exact rc_dict_str h1 h2.1 h3 b t (by omega) X.prog X.w _ _ ⟨.bl false, H, I, rfl, q _ (.bl _)⟩
  · match x, y, h with
    | .dct _ _, .str _, h => exact ⟨_, rfl, h.2⟩
def oMulS : OpF := fun x y Q => match x, y with
  | .str z, .int n => MulOk z n ∧ Q (.str (Txt.mul z n))
  | _, _ => False
theorem op_mulS : OpR X (binaryOp .Mult) (fun x y H Q => ∃ z n, x = .str z ∧ y = .int n ∧ MulOk z n ∧ Q (.str (Txt.mul z n)) H) := by
  intro pins s σ H x y v u Q I rx ry h
  obtain ⟨z, n, rfl, rfl, hz, q⟩ := h
  obtain ⟨t, rfl⟩ := rx
  obtain ⟨t', rfl⟩ := ry
  exact SB.mul hz fun t' tk => ⟨.str (Txt.mul z n), H, I.tok _, ⟨_, rfl⟩, q⟩
theorem od_mulS : OpD X (binaryOp .Mult) oMulS := by
  refine ⟨_, op_mulS, fun F H x y dx dy A B Q Q' hS rx ry h hn => ?_⟩
  cases dx with
  | str i =>
    cases dy with
    | int j =>
      obtain ⟨rfl, rfl⟩ := rx.str_inv
      obtain ⟨rfl, rfl⟩ := ry.int_inv
      exact ⟨i, j, rfl, rfl, h.1, hn _ _ [] H F (Gr.refl hS) (.str _) .nil (fun _ m => nomatch m) h.2⟩
    | _ => exact h.elim
  | _ => exact h.elim
def oMulX : OpF := fun x y Q => oMul x y Q ∨ oMulS x y Q
theorem od_mulX : OpD X (binaryOp .Mult) oMulX := OpD.or od_mul od_mulS fun _ _ _ h => h
end
end Mf
set_option Elab.async false
set_option linter.all false
set_option maxRecDepth 100000
set_option maxHeartbeats 1000000
/-! the end: a law's call by a promise over trees; facts of the top that the module's hook has no word for -/
namespace Mf
open PySem PySem.Spec PyProof.Rows L2
section
variable {P : Program} {w : World} {K : PySem.W.Frag} {mg mb : Str → Option Value} {k : Nat} {fa a : Addr} {fd : FuncData} {x : Str} {s1 : Shared} {us : List Value} {ns : List Int} {d : DSp}
/-- what is tracked ahead of the call -/
def scrH (own : Bool) (a : Addr) (us : List Value) (ns : List Int) : Hp := fun b =>
  if own = true ∧ b = a then some (.frz { cls := .type "list", data := .seq us.toArray } (.lst (ns.map V.int))) else none
theorem call_lawG (kx : K.In s1.heap) (gN : s1.heap.Ns mainGlobals mg) (bN : s1.heap.Ns builtinsNs mb) (bB : ∀ x : Str, x ≠ "__name__" → mb x = bootBuiltins x) (lim : s1.heap.NoLimit) (gens : s1.gens = #[])
    (at_ : s1.heap.get? a = some { cls := .type "list", data := .seq us.toArray }) (iA : IntsAre us ns) (few : ns.length ≤ sizeLine) (room : Room k callerA)
    (F : ∀ base : Heap, K.In base → base.Ns mainGlobals mg → FnG P w K mg base (L2.CX P w) k fa fd [x] (toSp ⟨K, mg⟩ 1 d)) (bind : ∀ (s : Shared) (u : Value), BindsTo s fd ⟨[u], []⟩ [(x, u)])
    (tells : d [.scr ns] [] (fun r _ => r = .bl true) fun _ _ => False) :
    codeAny (model P w) callerA (.call (.ref fa) ⟨[.ref a], []⟩) (fun r s' => r = .ok (.ret (.bool true)) ∧ OldK s1.heap s'.heap ∧ s'.os = s1.os ∧ AllBare s'.gens) s1 := by
  have rel := vals_ints iA
  have many := iA.length
  have own : ∃ own : Bool, SqL K (scrH own a us ns) a (ns.map V.int) ∧ (own = true → K.lookup a = none) := by
    cases q : K.lookup a with
    | some o =>
      have e := kx a o q
      rw [at_] at e
      cases e
      exact ⟨false, .inr ⟨_, us.toArray, _, q, rfl, rfl, rfl, by rw [List.size_toArray, many]; exact few, by simpa using rel⟩, nofun⟩
    | none => exact ⟨true, .inl (.inr ⟨_, if_pos ⟨rfl, rfl⟩⟩), fun _ => rfl⟩
  obtain ⟨own, seq, free⟩ := own
  have none_or : ∀ b, scrH own a us ns b = none ∨ (own = true ∧ b = a ∧ scrH own a us ns b = some (.frz { cls := .type "list", data := .seq us.toArray } (.lst (ns.map V.int)))) := fun b => by
    by_cases z : own = true ∧ b = a
    · exact .inr ⟨z.1, z.2, if_pos z⟩
    · exact .inl (if_neg z)
  have hok : HOk P w (scrH own a us ns) s1.heap := fun b u z => by
    rcases none_or b with n | ⟨_, rfl, y⟩
    · rw [n] at z; cases z
    · rw [y] at z
      cases z
      exact ⟨at_, by rw [List.length_map]; exact few, us, _, rel, at_⟩
  have hid : ∀ {b : Addr} {o : Obj}, s1.heap.get? b = some o → scrH own a us ns b = none → (hidT s1.heap (scrH own a us ns)).get? b = some o := fun e n => hidT_get e n
  have dicts : ∀ {b : Addr} {o : Obj} {es : Array DictEntry} {n : Nat}, s1.heap.get? b = some o → o.data = .dict es n → scrH own a us ns b = none := fun {b o es n} e dd => by
    rcases none_or b with q | ⟨_, rfl, _⟩
    · exact q
    · rw [at_] at e
      cases e
      cases (show Data.seq us.toArray _ = Data.dict es n from dd)
  have spaces : ∀ {b : Addr} {m : Str → Option Value}, s1.heap.Ns b m → (hidT s1.heap (scrH own a us ns)).Ns b m := fun {b m} z => by
    obtain ⟨o, es, n, e, dd, r⟩ := z
    exact ⟨o, es, n, hid e (dicts e dd), dd, r⟩
  have kin : K.In (hidT s1.heap (scrH own a us ns)) := fun b o e => hid (kx b o e) (by
    rcases none_or b with q | ⟨ow, rfl, _⟩
    · exact q
    · rw [free ow] at e; cases e)
  have md : Mod K mg (hidT s1.heap (scrH own a us ns)) := ⟨kin, spaces gN, ⟨mb, spaces bN, bB⟩, by
    obtain ⟨mc, l1, l2⟩ := lim
    exact ⟨mc, spaces l1, l2⟩⟩
  have env : Env0 P w K mg (hidT s1.heap (scrH own a us ns)) callerA [] s1 (scrH own a us ns) := ⟨rfl, md, fun b o e => of_hidT e, Nat.le_of_eq (hidT_size _ _), trivial, (fun b hb => nomatch hb), hok, .of_eq gens⟩
  have sp : toSp ⟨K, mg⟩ 1 d [.ref a] (scrH own a us ns) (fun v _ => v = .bl true) fun _ _ _ => False :=
    ⟨rfl, scrH own a us ns, [.scr ns], [], [], _, _, rfl, ⟨fun _ _ z => z, (fun _ m => nomatch m), [], .cons (A := []) (B := []) (.scr seq) .nil, .nil, fun _ m => nomatch m⟩, tells, fun v r st H' F' _ ab e => by
      subst e
      cases ab.head0 rfl
      rfl, fun _ _ _ _ _ _ _ _ _ z => z.elim⟩
  refine codeAny_mono ((F _ kin (spaces gN)).run callerA [] s1 (scrH own a us ns) ⟨[.ref a], []⟩ [.ref a] [.ref a] _ _ rfl room env (bind s1 (.ref a)) (.cons rfl .nil) sp) fun r s' end_ => ?_
  cases r with
  | error e =>
    obtain ⟨_, _, _, _, _, _, _, _, _, _, _, _, z⟩ := end_
    exact z.elim
  | ok fl =>
    cases fl with
    | ret u =>
      obtain ⟨v, H', os, bare, un, ok', rv, q⟩ := end_
      obtain rfl : v = .bl true := q
      obtain rfl : u = Value.bool true := rv
      refine ⟨rfl, OldK.of_keep fun b o e => ?_, os, bare⟩
      rcases none_or b with n | ⟨_, _, y⟩
      · exact un.keep b o e n (fun z => nomatch z) (by simp)
      · obtain ⟨e1, _⟩ := hok b _ y
        obtain ⟨e2, _⟩ := ok' b _ (un.frzs b _ _ y)
        rw [e] at e1
        cases e1
        exact e2
    | _ => exact False.elim end_
end
end Mf
set_option Elab.async false
set_option linter.all false
set_option maxRecDepth 100000
set_option maxHeartbeats 1000000
/-! facts of the top -/
namespace Mf
open PySem PySem.Spec PyProof.Rows L2 C8
/-- an exception class that may have its own __init__ -/
def oexB (K : PySem.W.Frag) (C : Addr) : Bool := match K.lookup C with
  | some ⟨.type "type", dd, .cls cd, sl⟩ => (match cd, sl.toList with
    | ⟨nm, bs, .ref C' :: bm, N, q, true, sn, sub, ab, col, false⟩, [k0, k1, k2, k3, some (.builtin n), k5] => (C' == C && n == "ValueError.__new__") && PySem.HandSPX.refsVE bm
    | _, _ => false)
  | _ => false
theorem oexB_ok {K : PySem.W.Frag} {C : Addr} (h : oexB K C = true) : ∃ nm q N bs bm sn sub ab col dd k0 k1 k2 k3 k5, K.lookup C = some (excClassObj nm q C N bs bm true sn sub ab col dd k0 k1 k2 k3 k5 "ValueError.__new__") ∧ PySem.HandSPX.refsVE bm = true := by
  unfold oexB at h
  split at h
  · rename_i dd cd sl ho
    split at h
    · rename_i nm bs C' bm N q sn sub ab col k0 k1 k2 k3 n k5 hs
      obtain ⟨h12, h3⟩ := Bool.and_eq_true_iff.mp h
      obtain ⟨h1, h2⟩ := Bool.and_eq_true_iff.mp h12
      obtain rfl := beq_iff_eq.mp h1
      obtain rfl := beq_iff_eq.mp h2
      obtain ⟨l⟩ := sl
      obtain rfl : l = _ := hs
      exact ⟨nm, q, N, bs, bm, sn, sub, ab, col, dd, k0, k1, k2, k3, k5, ho, h3⟩
    · cases h
  · cases h
def okE (K : PySem.W.Frag) (c : Str) : Bool := oexB K (He.ga K c) && (He.eqO (PySem.W.findIn K (.ref (He.ga K c)) "__setattr__") (some (some (.builtin "object.__setattr__"))) && (decide (PySem.W.subIn K (.ref (He.ga K c)) (.type "BaseException") = some true) &&
  (decide (PySem.W.typeIn K (.ref (He.ga K c)) = some (.type "type")) && (PySem.W.keepIn K (.ref (He.ga K c)) && xfB K (He.ga K c)))))
theorem okE_ok {K : PySem.W.Frag} {c : Str} (h : okE K c = true) : OexC K (He.ga K c) ∧ XfC K (He.ga K c) := by
  obtain ⟨h1, h⟩ := He.ba h
  obtain ⟨h2, h⟩ := He.ba h
  obtain ⟨h3, h⟩ := He.ba h
  obtain ⟨h4, h⟩ := He.ba h
  obtain ⟨h5, h6⟩ := He.ba h
  exact ⟨⟨oexB_ok h1, He.eqO_ok h2, of_decide_eq_true h3, of_decide_eq_true h4, h5⟩, xfB_ok h6⟩
def leB (K : PySem.W.Frag) (c : Str) : Bool := He.eqO (PySem.W.specialIn K (.ref (He.ga K c)) "__getattribute__") (some (some (.builtin "type.__getattribute__"))) && (PySem.W.readsIn K (He.ga K c) (.type "type") && (match PySem.W.findCls K (.ref (He.ga K c)) (.type "type") "__init__" with
  | some (.val v) => decide (v = .builtin "ValueError.__init__")
  | _ => false))
theorem leB_ok {K : PySem.W.Frag} {c : Str} (h : leB K c = true) : LeC K (He.ga K c) := by
  obtain ⟨h1, h⟩ := He.ba h
  obtain ⟨h2, h3⟩ := He.ba h
  refine ⟨He.eqO_ok h1, h2, ?_⟩
  split at h3
  · rename_i v e
    rw [e, of_decide_eq_true h3]
  · cases h3
def insB (K : PySem.W.Frag) (c : Str) : Bool := (He.Fa.cls c).ok K && (He.eqO (PySem.W.findIn K (.ref (He.ga K c)) "__class__") (some (some (.builtin "object.__class__"))) && (He.eqO (PySem.W.specialIn K (.builtin "object.__class__") "__get__") (some (some (.builtin "getset_descriptor.__get__"))) &&
  (decide (PySem.W.takesIn K (.builtin "object.__class__") = some true) && (decide (PySem.W.mroIn K (He.ga K c) (.type "object") = some true) && decide (PySem.W.kitOne K (.ref (He.ga K c)) (.ref (He.ga K c)) = some true)))))
theorem insB_ok {K : PySem.W.Frag} {c : Str} (h : insB K c = true) : InsC K (He.ga K c) := by
  obtain ⟨h1, h⟩ := He.ba h
  obtain ⟨h2, h⟩ := He.ba h
  obtain ⟨h3, h⟩ := He.ba h
  obtain ⟨h4, h⟩ := He.ba h
  obtain ⟨h5, h6⟩ := He.ba h
  exact ⟨He.cls_ok h1, He.eqO_ok h2, He.eqO_ok h3, of_decide_eq_true h4, of_decide_eq_true h5, of_decide_eq_true h6⟩
/-- a method's type -/
def fnB (K : PySem.W.Frag) (c m : Str) : Bool := He.eqO (PySem.W.findIn K (.ref (He.ga K c)) m) (some (some (.ref (He.ma K (He.ga K c) m)))) && decide (PySem.W.typeIn K (.ref (He.ma K (He.ga K c) m)) = some (.type "function"))
theorem fnB_ok {K : PySem.W.Frag} {c m : Str} (h : fnB K c m = true) : PySem.W.findIn K (.ref (He.ga K c)) m = some (some (.ref (He.ma K (He.ga K c) m))) ∧ PySem.W.typeIn K (.ref (He.ma K (He.ga K c) m)) = some (.type "function") := by
  obtain ⟨h1, h2⟩ := He.ba h
  exact ⟨He.eqO_ok h1, of_decide_eq_true h2⟩
/-! ### the hook: the module's facts, and more -/
def obX (fa : List He.Fa) (fn : List He.DefD) (ex : PySem.W.Frag → Bool) (K : PySem.W.Frag) : He.AlD × Bool := (He.obsD fa fn K, ex K)
def SaysX (fa : List He.Fa) (fn : List He.DefD) (ex : PySem.W.Frag → Bool) (K : PySem.W.Frag) : Prop := obX fa fn ex K = (He.valD fn, true)
def obXG (n : Nat) (fa : List He.Fa) (fn : List He.DefD) (ex : PySem.W.Frag → Bool) (g : Addr → Option Obj) : He.AlD × Bool := obX fa fn ex (He.frG g (cStatics :: He.asD g n))
def hookX (n : Nat) (fa : List He.Fa) (fn : List He.DefD) (ex : PySem.W.Frag → Bool) : PySem.W.Hook where
  α := He.AlD × Bool
  obs := fun s => obXG n fa fn ex s.heap.get?
  val := fun _ => (He.valD fn, true)
  says := fun _ h => ∃ K : PySem.W.Frag, K.In h ∧ SaysX fa fn ex K
  of := fun _ _ e => ⟨_, He.frG_in, e⟩
  keeps := fun _ _ _ z k => by
    obtain ⟨K, i, c⟩ := z
    exact ⟨K, i.keeps k, c⟩
theorem obXG_eq {n : Nat} {fa : List He.Fa} {fn : List He.DefD} {ex : PySem.W.Frag → Bool} {g : Addr → Option Obj} {s : Shared} (h : ∀ a, g a = s.heap.get? a) : obXG n fa fn ex g = (hookX n fa fn ex).obs s := by
  have e : g = s.heap.get? := funext h
  subst e
  rfl
section
variable {fa : List He.Fa} {fn : List He.DefD} {ex : PySem.W.Frag → Bool} {K : PySem.W.Frag}
theorem SaysX.d (c : SaysX fa fn ex K) : He.SaysD fa fn K := congrArg Prod.fst c
theorem SaysX.exB (c : SaysX fa fn ex K) : ex K = true := congrArg Prod.snd c
theorem SaysX.faB (c : SaysX fa fn ex K) {f : He.Fa} (m : f ∈ fa) : f.ok K = true := by
  obtain ⟨i, hi, e⟩ := List.mem_iff_getElem.mp m
  exact c.d.fact i (by rw [List.getElem?_eq_getElem hi, e])
end
end Mf
set_option Elab.async false
set_option linter.all false
set_option maxRecDepth 100000
set_option maxHeartbeats 1000000
/-! a method's promise; the walk that a row asks -/
namespace Mf
open PySem PySem.Spec PyProof.Rows L2 C8
section
variable {P : Program} {w : World} {K : PySem.W.Frag} {mg : Str → Option Value} {base : Heap} {k n : Nat} {x qual : Str} {d : DSp} {params : Arguments} {body : List Stmt} {scope : Scope} {f : Addr} {fd : FuncData} {N ps : List Str} {b : SF}
theorem fnG_mk (F : FunD K x qual params body scope [] [] f fd) (S : FnScope N ps scope)
    (hb : ∀ (cdv : Value) (A : Around) (outer : List Env) (s : Shared) (H : Hp) (E : XK), A.guards = some [] → Room k (fX P w K mg base N qual scope f cdv A outer s H E).A → DB (fX P w K mg base N qual scope f cdv A outer s H E) (fW E) body b)
    (math : ∀ ds st Q E, d ds st Q E → b (spN Q E) (startE N.length ds st)) : FnG P w K mg base (L2.CX P w) (k + 1) f fd ps (toSp ⟨K, mg⟩ ps.length d) := by
  obtain ⟨oc, od, dV, kV, doc, pm, an, cdv, ct, osl, rfl, lk, hcd, _, _⟩ := F.ex
  refine fnG lk hcd S (fun vs H Q E h => h.1) (fun A outer s H vs Q E hgd hr h => ?_)
  obtain ⟨t, pt, kt⟩ := (hb cdv A outer s H E hgd hr).ex
  refine ⟨t, pt, ?_⟩
  obtain ⟨l, F0, ds, st, R, Q0, E0, e, ab, dd, q, xk⟩ := h
  have hs : StA ⟨K, mg⟩ F0 H (start N vs) (startE N.length ds st) [] R := ⟨vs.zip ds, by
    show SlotR (vs.map some ++ List.replicate (N.length - vs.length) none) (ds.map some ++ List.replicate (N.length - ds.length) none) (vs.zip ds)
    rw [e]
    exact SlotR.start _ e, ab⟩
  have dropL : ∀ {F' H' σ' e'} {r : Rs}, StA ⟨K, mg⟩ F' H' σ' e' [] r → Abs ⟨K, mg⟩ F' H' [] (stR e'.st ++ r) := fun {F' H' σ' e' r} ⟨rs, _, a⟩ => a.drop
  refine kt (start N vs) H (startE N.length ds st) F0 R (spN Q0 E0) { nx := fun _ H' => Q .non H', rt := Q } hs (math ds st Q0 E0 dd) ⟨?_, ?_, ?_, ?_⟩ ?_
  · intro σ e H' F' s' st' q'
    exact q .non .non e.st H' F' s' ((dropL st').push .non) q'
  · intro v d' σ e H' F' s' st' q'
    refine q v d' e.st H' F' s' ((dropL st').perm ?_) q'
    exact List.perm_middle
  · intro _ _ _ _ _ _ q'; exact q'.elim
  · intro _ _ _ _ _ _ q'; exact q'.elim
  · intro cls dd' x' σ e H' F' s' st' rx q'
    exact xk cls dd' x' e.st H' F' s' (dropL st') rx q'
/-- nothing is promised: the bottom of a recursion -/
theorem FnD.none (F : FunD K x qual params body scope [] [] f fd) (S : FnScope N ps scope) (gm : mg x = some (.ref f)) (bd : Binds K fd ps []) : FnD P w K mg base 0 x ps.length fun _ _ _ _ => False :=
  ⟨fun _ _ _ _ h => h.elim, f, fd, ps, rfl, ⟨fun vs H Q E h => h.1, fun A outer s H args us vs Q E _ _ _ _ _ h => by
    obtain ⟨_, F0, ds, st, R, Q0, E0, e, ab, dd, _⟩ := h
    exact dd.elim⟩, gm, F.kp, bd⟩
end
theorem walkG {l : PySem.W.OpenLaw} {n k : Nat} {q : Program} {loose : List Str} {XP : (Str → Option Value) → Heap → Prop} {YP : World → Heap → Prop} {df : DefRec} {x : Str}
    (most : l.most = some n) (small : n ≤ sizeLine) (nod : df.params.defaults = []) (room : Room k callerA)
    (F : ∀ (w : World) (mg : Str → Option Value) (fa : Addr) (h : Heap), YP w h → h.Ns mainGlobals mg → mg df.name = some (.ref fa) →
      ∃ (K : PySem.W.Frag) (fd : FuncData) (d : DSp), K.In h ∧ (∀ (s : Shared) (u : Value), BindsTo s fd ⟨[u], []⟩ [(x, u)]) ∧ (∀ ns : List Int, ns.length ≤ n → d [.scr ns] [] (fun r _ => r = .bl true) fun _ _ => False) ∧
        ∀ base : Heap, K.In base → base.Ns mainGlobals mg → FnG l.prog w K mg base (L2.CX l.prog w) k fa fd [x] (toSp ⟨K, mg⟩ 1 d)) :
    PySem.W.WalkO q loose XP YP l.row.toRowW df [] (fun f vs => PySem.call f vs) := by
  refine Att.attach_call most nod fun w s0 s1 mg mb fa o pm cd doc a us ns g y ho hd hcd hm at_ iA few gens => ?_
  obtain ⟨K, fd, d, kx, bind, tells, hF⟩ := F w mg fa _ y g.T.g hm
  exact call_lawG kx g.T.g g.T.b g.T.builtins g.T.nolimit gens at_ iA (Nat.le_trans few small) room hF bind (tells ns few)
end Mf
set_option Elab.async false
set_option linter.all false
set_option maxRecDepth 100000
set_option maxHeartbeats 4000000
namespace Mf.L_k92
open PySem PySem.Spec PyProof.Rows L2
def top (i : Nat) : Stmt := PySem.Challenge.pw_mapfound_k92_whole_rows_of_trees.main.body.getD i (.Pass ⟨0, 0, 0, 0⟩)

def cbody : Stmt → List Stmt
  | .ClassDef _ _ _ b _ _ _ _ _ _ _ => b
  | _ => []
def meth (i j : Nat) : Stmt := (cbody (top i)).getD j (.Pass ⟨0, 0, 0, 0⟩)

def EXC : List Str := ["LostError", "InvalidHouses", "InvalidRoads", "NotJoined", "InvalidRow"]
def EXF : List Str := ["given", "house"]
abbrev s_is_integer : Stmt := top 7
abbrev N_is_integer : List Str := ["value"]
abbrev p_is_integer : List Str := ["value"]

theorem S_is_integer : FnScope N_is_integer p_is_integer (defScope s_is_integer) := ⟨rfl, rfl, rfl, by decide +kernel, rfl, by decide +kernel, by decide +kernel⟩

def b_is_integer : SF :=
  sRet (pe (pAnd (pCall cIsa (paCons (pVar 0) (paCons (pC (.typ "int")) (paNil)))) (pNot (pCall cIsa (paCons (pVar 0) (paCons (pC (.typ "bool")) (paNil)))))))

theorem d_is_integer {P : Program} {w : World} {K : PySem.W.Frag} {mg : Str → Option Value} {base : Heap} {k : Nat} {f : Addr} {cdv : Value} {A : Around} {outer : List Env} {s : Shared} {H : Hp} {E : XK} (B : Blt mg) (hgd : A.guards = some [])
    (hr : Room k (fX P w K mg base N_is_integer "is_integer" (defScope s_is_integer) f cdv A outer s H E).A) :
    DB (fX P w K mg base N_is_integer "is_integer" (defScope s_is_integer) f cdv A outer s H E) (fW E) (defBody s_is_integer) (b_is_integer) := by
  have S := S_is_integer
  exact db_one (ds_ret (de_p (dp_and (dp_callB cd_isa (dpa_cons (dp_var (i := 0)) (dpa_cons (dp_typ rfl (B.g "int") boot_int) (dpa_nil))) rfl (B.g "isinstance") boot_isinstance) (dp_one (dp_not (dp_callB cd_isa (dpa_cons (dp_var (i := 0)) (dpa_cons (dp_typ rfl (B.g "bool") boot_bool) (dpa_nil))) rfl (B.g "isinstance") boot_isinstance))))))

abbrev s_is_index : Stmt := top 8
abbrev N_is_index : List Str := ["value", "many"]
abbrev p_is_index : List Str := ["value", "many"]

theorem S_is_index : FnScope N_is_index p_is_index (defScope s_is_index) := ⟨rfl, rfl, rfl, by decide +kernel, rfl, by decide +kernel, by decide +kernel⟩

def b_is_index (sp_is_integer : DSp) : SF :=
  sRet (dAnd (dFnB sp_is_integer (paCons (pVar 0) (paNil))) (pe (pChain oLe oLt (pC (.int 0)) (pVar 0) (pVar 1))))

theorem d_is_index {P : Program} {w : World} {K : PySem.W.Frag} {mg : Str → Option Value} {base : Heap} {k : Nat} {f : Addr} {cdv : Value} {A : Around} {outer : List Env} {s : Shared} {H : Hp} {E : XK} {sp_is_integer : DSp} (B : Blt mg) (hgd : A.guards = some [])
    (hr : Room k (fX P w K mg base N_is_index "is_index" (defScope s_is_index) f cdv A outer s H E).A) (F_is_integer : FnD P w K mg base k "is_integer" 1 sp_is_integer) :
    DB (fX P w K mg base N_is_index "is_index" (defScope s_is_index) f cdv A outer s H E) (fW E) (defBody s_is_index) (b_is_index sp_is_integer) := by
  have S := S_is_index
  exact db_one (ds_ret (de_and (de_fnB F_is_integer hgd hr (by rfl) (pss_takes takes_f) (dpa_cons (dp_var (i := 0)) (dpa_nil))) (de_one (de_p (dp_chain (od_le (ru hr)) (od_lt (ru hr)) (dp_int) (dp_var (i := 0)) (dp_var (i := 1)))))))

abbrev s_is_list : Stmt := top 9
abbrev N_is_list : List Str := ["value"]
abbrev p_is_list : List Str := ["value"]

theorem S_is_list : FnScope N_is_list p_is_list (defScope s_is_list) := ⟨rfl, rfl, rfl, by decide +kernel, rfl, by decide +kernel, by decide +kernel⟩

def b_is_list : SF :=
  sRet (nCall cIsa (paCons (pVar 0) (paCons (pTup (paCons (pC (.typ "list")) (paCons (pC (.typ "tuple")) (paNil)))) (paNil))))

theorem d_is_list {P : Program} {w : World} {K : PySem.W.Frag} {mg : Str → Option Value} {base : Heap} {k : Nat} {f : Addr} {cdv : Value} {A : Around} {outer : List Env} {s : Shared} {H : Hp} {E : XK} (B : Blt mg) (hgd : A.guards = some [])
    (hr : Room k (fX P w K mg base N_is_list "is_list" (defScope s_is_list) f cdv A outer s H E).A) :
    DB (fX P w K mg base N_is_list "is_list" (defScope s_is_list) f cdv A outer s H E) (fW E) (defBody s_is_list) (b_is_list) := by
  have S := S_is_list
  exact db_one (ds_ret (de_callBP cd_isa (dpa_cons (dp_var (i := 0)) (dpa_cons (dp_tup (dpa_cons (dp_typ rfl (B.g "list") boot_list) (dpa_cons (dp_typ rfl (B.g "tuple") boot_tuple) (dpa_nil)))) (dpa_nil))) rfl (B.g "isinstance") boot_isinstance))

abbrev s_ascends : Stmt := top 10
abbrev N_ascends : List Str := ["items", "at"]
abbrev p_ascends : List Str := ["items"]

theorem S_ascends : FnScope N_ascends p_ascends (defScope s_ascends) := ⟨rfl, rfl, rfl, by decide +kernel, rfl, by decide +kernel, by decide +kernel⟩

def b_ascends : SF :=
  sRet (dCall cAll (aCons (dLc [1] (iR1 (aCons (nOp oSub (pCall cLen (paCons (pVar 0) (paNil))) (pC (.int 1))) (aNil))) (tName 1) (bYes) (pe (pOp oLt (pIx (pVar 0) (pVar 1)) (pIx (pVar 0) (pOp oAdd (pVar 1) (pC (.int 1))))))) (aNil)))

theorem d_ascends {P : Program} {w : World} {K : PySem.W.Frag} {mg : Str → Option Value} {base : Heap} {k : Nat} {f : Addr} {cdv : Value} {A : Around} {outer : List Env} {s : Shared} {H : Hp} {E : XK} (B : Blt mg) (hgd : A.guards = some [])
    (hr : Room k (fX P w K mg base N_ascends "ascends" (defScope s_ascends) f cdv A outer s H E).A) :
    DB (fX P w K mg base N_ascends "ascends" (defScope s_ascends) f cdv A outer s H E) (fW E) (defBody s_ascends) (b_ascends) := by
  have S := S_ascends
  exact db_one (ds_ret (de_callB (cd_all rfl) (da_cons (de_lc (own := [("at", 1)]) rfl S.nd (di_range1 rfl (B.g "range") (da_cons (de_opP od_sub (dp_callB cd_len (dpa_cons (dp_var (i := 0)) (dpa_nil)) rfl (B.g "len") boot_len) (dp_int)) (da_nil))) (blkOk_by (own := [("at", 1)]) (by rfl)) (by decide) (fun z => dg_name (i := 1) S.nd rfl (by first | exact Or.inl rfl | exact Or.inr rfl)) (fun z => dts_nil) (fun z => de_p (dp_cmp (od_lt (ru hr)) (dp_ix (ru hr) (dp_var (i := 0)) (dp_var (i := 1))) (dp_ix (ru hr) (dp_var (i := 0)) (dp_op od_add (dp_var (i := 1)) (dp_int))) (nomark _)))) (da_nil)) rfl (B.g "all") boot_all))

abbrev s_is_road : Stmt := top 13
abbrev N_is_road : List Str := ["value", "houses", "u", "v"]
abbrev p_is_road : List Str := ["value", "houses"]

theorem S_is_road : FnScope N_is_road p_is_road (defScope s_is_road) := ⟨rfl, rfl, rfl, by decide +kernel, rfl, by decide +kernel, by decide +kernel⟩

def b_is_road (sp_is_index : DSp) : SF :=
  sSeq (sIf (bOr (bNot (bP (pCall cIsa (paCons (pVar 0) (paCons (pC (.typ "tuple")) (paNil)))))) (bV (pe (pOp oNe (pCall cLen (paCons (pVar 0) (paNil))) (pC (.int 2)))))) (sRet (pe (pC (.bl false)))) (sNil))
      (sSeq (sAsg (pe (pVar 0)) (tTupT 2 (tsCons (tNameF 2) (tsCons (tNameF 3) (tsNil)))))
      (sRet (dAnd (dFnB sp_is_index (paCons (pVar 2) (paCons (pVar 1) (paNil)))) (dAnd (dFnB sp_is_index (paCons (pVar 3) (paCons (pVar 1) (paNil)))) (pe (pOp oLt (pVar 2) (pVar 3)))))))

theorem d_is_road {P : Program} {w : World} {K : PySem.W.Frag} {mg : Str → Option Value} {base : Heap} {k : Nat} {f : Addr} {cdv : Value} {A : Around} {outer : List Env} {s : Shared} {H : Hp} {E : XK} {sp_is_index : DSp} (B : Blt mg) (hgd : A.guards = some [])
    (hr : Room k (fX P w K mg base N_is_road "is_road" (defScope s_is_road) f cdv A outer s H E).A) (F_is_index : FnD P w K mg base k "is_index" 2 sp_is_index) :
    DB (fX P w K mg base N_is_road "is_road" (defScope s_is_road) f cdv A outer s H E) (fW E) (defBody s_is_road) (b_is_road sp_is_index) := by
  have S := S_is_road
  exact db_cons (ds_if (DW.dt (dw_or (dt_not (dt_P (dp_callB cd_isa (dpa_cons (dp_var (i := 0)) (dpa_cons (dp_typ rfl (B.g "tuple") boot_tuple) (dpa_nil))) rfl (B.g "isinstance") boot_isinstance))) (dw_or1 (dt_cmpP (od_ne (ru hr)) (dp_callB cd_len (dpa_cons (dp_var (i := 0)) (dpa_nil)) rfl (B.g "len") boot_len) (dp_int) (nomark _))))) (db_one (ds_ret (de_p (dp_bl)))) (db_nil))
      (db_cons (ds_asg (de_p (dp_var (i := 0))) (dg_tup rfl (dgs_cons (dg_nameF (i := 2) S.nd rfl (by first | exact Or.inl rfl | exact Or.inr rfl)) (dgs_cons (dg_nameF (i := 3) S.nd rfl (by first | exact Or.inl rfl | exact Or.inr rfl)) (dgs_nil)))))
      (db_one (ds_ret (de_and (de_fnB F_is_index hgd hr (by rfl) (pss_takes takes_f) (dpa_cons (dp_var (i := 2)) (dpa_cons (dp_var (i := 1)) (dpa_nil)))) (de_and (de_fnB F_is_index hgd hr (by rfl) (pss_takes takes_f) (dpa_cons (dp_var (i := 3)) (dpa_cons (dp_var (i := 1)) (dpa_nil)))) (de_one (de_p (dp_cmp (od_lt (ru hr)) (dp_var (i := 2)) (dp_var (i := 3)) (nomark _)))))))))

abbrev s_are_roads : Stmt := top 14
abbrev N_are_roads : List Str := ["value", "houses", "road"]
abbrev p_are_roads : List Str := ["value", "houses"]

theorem S_are_roads : FnScope N_are_roads p_are_roads (defScope s_are_roads) := ⟨rfl, rfl, rfl, by decide +kernel, rfl, by decide +kernel, by decide +kernel⟩

def b_are_roads (sp_is_list sp_is_road sp_ascends : DSp) : SF :=
  sSeq (sIf (bOr (bNot (bV (dFnB sp_is_list (paCons (pVar 0) (paNil))))) (bV (pe (pOp oNe (pCall cLen (paCons (pVar 0) (paNil))) (pOp oSub (pVar 1) (pC (.int 1))))))) (sRet (pe (pC (.bl false)))) (sNil))
      (sRet (dAnd (dCall cAll (aCons (dLc [2] (iSeq (pe (pVar 0))) (tName 2) (bYes) (dFn sp_is_road (aCons (pe (pVar 2)) (aCons (pe (pVar 1)) (aNil))))) (aNil))) (dFnB sp_ascends (paCons (pVar 0) (paNil)))))

theorem d_are_roads {P : Program} {w : World} {K : PySem.W.Frag} {mg : Str → Option Value} {base : Heap} {k : Nat} {f : Addr} {cdv : Value} {A : Around} {outer : List Env} {s : Shared} {H : Hp} {E : XK} {sp_is_list sp_is_road sp_ascends : DSp} (B : Blt mg) (hgd : A.guards = some [])
    (hr : Room k (fX P w K mg base N_are_roads "are_roads" (defScope s_are_roads) f cdv A outer s H E).A) (F_is_list : FnD P w K mg base k "is_list" 1 sp_is_list) (F_is_road : FnD P w K mg base k "is_road" 2 sp_is_road) (F_ascends : FnD P w K mg base k "ascends" 1 sp_ascends) :
    DB (fX P w K mg base N_are_roads "are_roads" (defScope s_are_roads) f cdv A outer s H E) (fW E) (defBody s_are_roads) (b_are_roads sp_is_list sp_is_road sp_ascends) := by
  have S := S_are_roads
  exact db_cons (ds_if (DW.dt (dw_or (dt_not (dt_val (de_fnB F_is_list hgd hr (by rfl) (pss_takes takes_f) (dpa_cons (dp_var (i := 0)) (dpa_nil))))) (dw_or1 (dt_cmpP (od_ne (ru hr)) (dp_callB cd_len (dpa_cons (dp_var (i := 0)) (dpa_nil)) rfl (B.g "len") boot_len) (dp_op od_sub (dp_var (i := 1)) (dp_int)) (nomark _))))) (db_one (ds_ret (de_p (dp_bl)))) (db_nil))
      (db_one (ds_ret (de_and (de_callB (cd_all rfl) (da_cons (de_lc (own := [("road", 2)]) rfl S.nd (di_seq (de_p (dp_var (i := 0)))) (blkOk_by (own := [("road", 2)]) (by rfl)) (by decide) (fun z => dg_name (i := 2) S.nd rfl (by first | exact Or.inl rfl | exact Or.inr rfl)) (fun z => dts_nil) (fun z => de_fn F_is_road hgd hr (by rfl) pss_no (da_cons (de_p (dp_var (i := 2))) (da_cons (de_p (dp_var (i := 1))) (da_nil))))) (da_nil)) rfl (B.g "all") boot_all) (de_one (de_fnB F_ascends hgd hr (by rfl) (pss_takes takes_f) (dpa_cons (dp_var (i := 0)) (dpa_nil)))))))

abbrev s_joined_by : Stmt := top 15
abbrev N_joined_by : List Str := ["houses", "roads", "found", "u", "v", "_", "others"]
abbrev p_joined_by : List Str := ["houses", "roads"]

theorem S_joined_by : FnScope N_joined_by p_joined_by (defScope s_joined_by) := ⟨rfl, rfl, rfl, by decide +kernel, rfl, by decide +kernel, by decide +kernel⟩

def b_joined_by : SF :=
  sSeq (sSetX false 2 (dLc [5] (iR1 (aCons (pe (pVar 0)) (aNil))) (tName 5) (bYes) (dLst (aNil))))
      (sSeq (sFor (iSeq (pe (pVar 1))) (tTupT 2 (tsCons (tName 3) (tsCons (tName 4) (tsNil)))) (sSeq (sExpr (dMth "list" mAppend (qIx (qVar 2) (pVar 3)) (paCons (pVar 4) (paNil))))
      (sExpr (dMth "list" mAppend (qIx (qVar 2) (pVar 4)) (paCons (pVar 3) (paNil))))))
      (sRet (dCall cTuple (aCons (dLc [6] (iSeq (dVar 2)) (tName 6) (bYes) (nCall cTuple (paCons (pCall cSorted (paCons (pVar 6) (paNil))) (paNil)))) (aNil)))))

theorem d_joined_by {P : Program} {w : World} {K : PySem.W.Frag} {mg : Str → Option Value} {base : Heap} {k : Nat} {f : Addr} {cdv : Value} {A : Around} {outer : List Env} {s : Shared} {H : Hp} {E : XK} (B : Blt mg) (hgd : A.guards = some [])
    (hr : Room k (fX P w K mg base N_joined_by "joined_by" (defScope s_joined_by) f cdv A outer s H E).A) :
    DB (fX P w K mg base N_joined_by "joined_by" (defScope s_joined_by) f cdv A outer s H E) (fW E) (defBody s_joined_by) (b_joined_by) := by
  have S := S_joined_by
  exact db_cons (ds_setLc (frz := false) (own := [("_", 5)]) (i := 2) rfl S.nd rfl rfl (sw_true rfl rfl rfl (by decide +kernel)) (di_range1 rfl (B.g "range") (da_cons (de_p (dp_var (i := 0))) (da_nil))) (blkOk_by (own := [("_", 5)]) (by rfl)) (by decide) (fun z => dg_name (i := 5) S.nd rfl (by first | exact Or.inl rfl | exact Or.inr rfl)) (fun z => dts_nil) (fun z => de_lst (da_nil)))
      (db_cons (ds_for own_f rfl (di_seq (de_p (dp_var (i := 1)))) (dg_tup rfl (dgs_cons (dg_name (i := 3) S.nd rfl (by first | exact Or.inl rfl | exact Or.inr rfl)) (dgs_cons (dg_name (i := 4) S.nd rfl (by first | exact Or.inl rfl | exact Or.inr rfl)) (dgs_nil)))) (db_cons (ds_expr (de_mth F.plainAttrs_list F.slot_list_append (by rfl) mu_append (dq_ix (dq_var (i := 2)) (dp_var (i := 3))) (dpa_cons (dp_var (i := 4)) (dpa_nil))))
      (db_one (ds_expr (de_mth F.plainAttrs_list F.slot_list_append (by rfl) mu_append (dq_ix (dq_var (i := 2)) (dp_var (i := 4))) (dpa_cons (dp_var (i := 3)) (dpa_nil)))))))
      (db_one (ds_ret (de_callTy cd_tuple (da_cons (de_lc (own := [("others", 6)]) rfl S.nd (di_seq (de_var (i := 2))) (blkOk_by (own := [("others", 6)]) (by rfl)) (by decide) (fun z => dg_name (i := 6) S.nd rfl (by first | exact Or.inl rfl | exact Or.inr rfl)) (fun z => dts_nil) (fun z => de_callTyP cd_tuple (dpa_cons (dp_callB (cd_sorted (ru hr)) (dpa_cons (dp_var (i := 6)) (dpa_nil)) rfl (B.g "sorted") boot_sorted) (dpa_nil)) rfl (B.g "tuple") boot_tuple)) (da_nil)) rfl (B.g "tuple") boot_tuple))))

abbrev s_ways_from : Stmt := top 16
abbrev N_ways_from : List Str := ["near", "house", "found", "front", "at", "other", "_"]
abbrev p_ways_from : List Str := ["near", "house"]

theorem S_ways_from : FnScope N_ways_from p_ways_from (defScope s_ways_from) := ⟨rfl, rfl, rfl, by decide +kernel, rfl, by decide +kernel, by decide +kernel⟩

def b_ways_from : SF :=
  sSeq (sSetX false 2 (dLc [6] (iSeq (pe (pVar 0))) (tName 6) (bYes) (dTup (aNil))))
      (sSeq (sAsg (dTup (aCons (pe (pVar 1)) (aNil))) (tSub (qVar 2) (pVar 1)))
      (sSeq (sSet 3 (dLst (aCons (pe (pVar 1)) (aNil))))
      (sSeq (sWhile (bV (pe (pOp oNe (pVar 3) (pLst (paNil))))) (sSeq (sSetF 4 (dMth0 "list" mPop (qVar 3)))
      (sFor (iSeq (pe (pIx (pVar 0) (pVar 4)))) (tName 5) (sIf (bV (pe (pOp oEq (pIx (pVar 2) (pVar 5)) (pTup (paNil))))) (sSeq (sAsg (dTup (aStar (pe (pIx (pVar 2) (pVar 4))) (aCons (pe (pVar 5)) (aNil)))) (tSub (qVar 2) (pVar 5)))
      (sExpr (dMth "list" mAppend (qVar 3) (paCons (pVar 5) (paNil))))) (sNil)))))
      (sRet (nCall cTuple (paCons (pVar 2) (paNil)))))))

theorem d_ways_from {P : Program} {w : World} {K : PySem.W.Frag} {mg : Str → Option Value} {base : Heap} {k : Nat} {f : Addr} {cdv : Value} {A : Around} {outer : List Env} {s : Shared} {H : Hp} {E : XK} (B : Blt mg) (hgd : A.guards = some [])
    (hr : Room k (fX P w K mg base N_ways_from "ways_from" (defScope s_ways_from) f cdv A outer s H E).A) :
    DB (fX P w K mg base N_ways_from "ways_from" (defScope s_ways_from) f cdv A outer s H E) (fW E) (defBody s_ways_from) (b_ways_from) := by
  have S := S_ways_from
  exact db_cons (ds_setLc (frz := false) (own := [("_", 6)]) (i := 2) rfl S.nd rfl rfl (sw_true rfl rfl rfl (by decide +kernel)) (di_seq (de_p (dp_var (i := 0)))) (blkOk_by (own := [("_", 6)]) (by rfl)) (by decide) (fun z => dg_name (i := 6) S.nd rfl (by first | exact Or.inl rfl | exact Or.inr rfl)) (fun z => dts_nil) (fun z => de_tup (da_nil)))
      (db_cons (ds_asg (de_tup (da_cons (de_p (dp_var (i := 1))) (da_nil))) (dg_sub (ru hr) (dq_var (i := 2)) (dp_var (i := 1))))
      (db_cons (ds_set (i := 3) S.nd rfl (by first | exact Or.inl rfl | exact Or.inr rfl) (de_lst (da_cons (de_p (dp_var (i := 1))) (da_nil))))
      (db_cons (ds_while own_f (dt_cmpP (od_ne (ru hr)) (dp_var (i := 3)) (dp_lst (dpa_nil)) (nomark _)) (db_cons (ds_setF (i := 4) S.nd rfl (by first | exact Or.inl rfl | exact Or.inr rfl) (de_mth0 F.plainAttrs_list F.slot_list_pop (by rfl) mu_pop (dq_var (i := 3))))
      (db_one (ds_for own_f rfl (di_seq (de_p (dp_ix (ru hr) (dp_var (i := 0)) (dp_var (i := 4))))) (dg_name (i := 5) S.nd rfl (by first | exact Or.inl rfl | exact Or.inr rfl)) (db_one (ds_if (dt_cmpP (od_eq (ru hr)) (dp_ix (ru hr) (dp_var (i := 2)) (dp_var (i := 5))) (dp_tup (dpa_nil)) (nomark _)) (db_cons (ds_asg (de_tup (da_star (de_p (dp_ix (ru hr) (dp_var (i := 2)) (dp_var (i := 4)))) (da_cons (de_p (dp_var (i := 5))) (da_nil)))) (dg_sub (ru hr) (dq_var (i := 2)) (dp_var (i := 5))))
      (db_one (ds_expr (de_mth F.plainAttrs_list F.slot_list_append (by rfl) mu_append (dq_var (i := 3)) (dpa_cons (dp_var (i := 5)) (dpa_nil)))))) (db_nil)))))))
      (db_one (ds_ret (de_callTyP cd_tuple (dpa_cons (dp_var (i := 2)) (dpa_nil)) rfl (B.g "tuple") boot_tuple))))))

abbrev s_row_of : Stmt := top 19
abbrev N_row_of : List Str := ["tree", "near", "found", "_", "end", "others", "house"]
abbrev p_row_of : List Str := ["tree"]

theorem S_row_of : FnScope N_row_of p_row_of (defScope s_row_of) := ⟨rfl, rfl, rfl, by decide +kernel, rfl, by decide +kernel, by decide +kernel⟩

def b_row_of : SF :=
  sSeq (sIf (bV (pe (pOp oLt (pFld "Tree" "houses" (pVar 0)) (pC (.int 2))))) (sRaise "InvalidHouses" ["given"] (aCons (pe (pFld "Tree" "houses" (pVar 0))) (aNil))) (sNil))
      (sSeq (sSet 1 (dLc [5] (iSeq (pe (pFld "Tree" "near" (pVar 0)))) (tName 5) (bYes) (nCall cList (paCons (pVar 5) (paNil)))))
      (sSeq (sSet 2 (dLst (aNil)))
      (sSeq (sFor (iR1 (aCons (nOp oSub (pFld "Tree" "houses" (pVar 0)) (pC (.int 2))) (aNil))) (tName 3) (sSeq (sSetF 4 (dIx (dLc [6] (iR1 (aCons (pe (pFld "Tree" "houses" (pVar 0))) (aNil))) (tName 6) (bV (pe (pOp oEq (pCall cLen (paCons (pIx (pVar 1) (pVar 6)) (paNil))) (pC (.int 1))))) (pe (pVar 6))) (pe (pC (.int 0)))))
      (sSeq (sExpr (dMth "list" mAppend (qVar 2) (paCons (pIx (pIx (pVar 1) (pVar 4)) (pC (.int 0))) (paNil))))
      (sSeq (sExpr (dMth "list" mRemove (qIx (qVar 1) (pIx (pIx (pVar 1) (pVar 4)) (pC (.int 0)))) (paCons (pVar 4) (paNil))))
      (sExpr (dMth0 "list" mClear (qIx (qVar 1) (pVar 4))))))))
      (sRet (dMove 2)))))

theorem d_row_of {P : Program} {w : World} {K : PySem.W.Frag} {mg : Str → Option Value} {base : Heap} {k : Nat} {f : Addr} {cdv : Value} {A : Around} {outer : List Env} {s : Shared} {H : Hp} {E : XK} (B : Blt mg) (hgd : A.guards = some [])
    (hr : Room k (fX P w K mg base N_row_of "row_of" (defScope s_row_of) f cdv A outer s H E).A) (h2k : 2 ≤ k) (X_InvalidHouses : XcD P w K mg base "InvalidHouses" ["given"]) (C_Tree : ClD P w K mg base "Tree" ["houses", "roads", "near", "ways"]) :
    DB (fX P w K mg base N_row_of "row_of" (defScope s_row_of) f cdv A outer s H E) (fW E) (defBody s_row_of) (b_row_of) := by
  have S := S_row_of
  have hr2 := hr.mono h2k
  exact db_cons (ds_if (dt_cmpP (od_lt (ru hr)) (dp_fld C_Tree (by decide) (dp_var (i := 0))) (dp_int) (nomark _)) (db_one (ds_raise rfl takes_f hr2 X_InvalidHouses rfl (da_cons (de_p (dp_fld C_Tree (by decide) (dp_var (i := 0)))) (da_nil)))) (db_nil))
      (db_cons (ds_set (i := 1) S.nd rfl (by first | exact Or.inl rfl | exact Or.inr rfl) (de_lc (own := [("others", 5)]) rfl S.nd (di_seq (de_p (dp_fld C_Tree (by decide) (dp_var (i := 0))))) (blkOk_by (own := [("others", 5)]) (by rfl)) (by decide) (fun z => dg_name (i := 5) S.nd rfl (by first | exact Or.inl rfl | exact Or.inr rfl)) (fun z => dts_nil) (fun z => de_callTyP cd_list (dpa_cons (dp_var (i := 5)) (dpa_nil)) rfl (B.g "list") boot_list)))
      (db_cons (ds_set (i := 2) S.nd rfl (by first | exact Or.inl rfl | exact Or.inr rfl) (de_lst (da_nil)))
      (db_cons (ds_for own_f rfl (di_range1 rfl (B.g "range") (da_cons (de_opP od_sub (dp_fld C_Tree (by decide) (dp_var (i := 0))) (dp_int)) (da_nil))) (dg_name (i := 3) S.nd rfl (by first | exact Or.inl rfl | exact Or.inr rfl)) (db_cons (ds_setF (i := 4) S.nd rfl (by first | exact Or.inl rfl | exact Or.inr rfl) (de_ix (ru hr) (de_lc (own := [("house", 6)]) rfl S.nd (di_range1 rfl (B.g "range") (da_cons (de_p (dp_fld C_Tree (by decide) (dp_var (i := 0)))) (da_nil))) (blkOk_by (own := [("house", 6)]) (by rfl)) (by decide) (fun z => dg_name (i := 6) S.nd rfl (by first | exact Or.inl rfl | exact Or.inr rfl)) (fun z => dts_one (dt_cmpP (od_eq (ru hr)) (dp_callB cd_len (dpa_cons (dp_ix (ru hr) (dp_var (i := 1)) (dp_var (i := 6))) (dpa_nil)) rfl (B.g "len") boot_len) (dp_int) (nomark _))) (fun z => de_p (dp_var (i := 6)))) (de_p (dp_int))))
      (db_cons (ds_expr (de_mth F.plainAttrs_list F.slot_list_append (by rfl) mu_append (dq_var (i := 2)) (dpa_cons (dp_ix (ru hr) (dp_ix (ru hr) (dp_var (i := 1)) (dp_var (i := 4))) (dp_int)) (dpa_nil))))
      (db_cons (ds_expr (de_mth F.plainAttrs_list F.slot_list_remove (by rfl) (mu_remove (ru hr)) (dq_ix (dq_var (i := 1)) (dp_ix (ru hr) (dp_ix (ru hr) (dp_var (i := 1)) (dp_var (i := 4))) (dp_int))) (dpa_cons (dp_var (i := 4)) (dpa_nil))))
      (db_one (ds_expr (de_mth0 F.plainAttrs_list F.slot_list_clear (by rfl) mu_clear (dq_ix (dq_var (i := 1)) (dp_var (i := 4))))))))))
      (db_one (ds_ret (de_move (i := 2)))))))

abbrev s_tree_of_row : Stmt := top 20
abbrev N_tree_of_row : List Str := ["houses", "row", "left", "roads", "goal", "end", "one", "other", "house"]
abbrev p_tree_of_row : List Str := ["houses", "row"]

theorem S_tree_of_row : FnScope N_tree_of_row p_tree_of_row (defScope s_tree_of_row) := ⟨rfl, rfl, rfl, by decide +kernel, rfl, by decide +kernel, by decide +kernel⟩

def b_tree_of_row (sp_is_integer sp_is_list sp_is_index mk_Tree : DSp) : SF :=
  sSeq (sIf (bOr (bNot (bV (dFnB sp_is_integer (paCons (pVar 0) (paNil))))) (bNot (bCh oLe oLe (pC (.int 2)) (pVar 0) (pC (.int 64))))) (sRaise "InvalidHouses" ["given"] (aCons (pe (pVar 0)) (aNil))) (sNil))
      (sSeq (sIf (bOr (bNot (bV (dFnB sp_is_list (paCons (pVar 1) (paNil))))) (bOr (bV (pe (pOp oNe (pCall cLen (paCons (pVar 1) (paNil))) (pOp oSub (pVar 0) (pC (.int 2)))))) (bNot (bV (dCall cAll (aCons (dLc [8] (iSeq (pe (pVar 1))) (tName 8) (bYes) (dFnB sp_is_index (paCons (pVar 8) (paCons (pVar 0) (paNil))))) (aNil))))))) (sRaise "InvalidRow" ["given"] (aCons (pe (pVar 1)) (aNil))) (sNil))
      (sSeq (sSet 2 (dLc [8] (iR1 (aCons (pe (pVar 0)) (aNil))) (tName 8) (bYes) (dOp oAdd (pe (pC (.int 1))) (dCall cLen (aCons (dLc [6] (iSeq (pe (pVar 1))) (tName 6) (bV (pe (pOp oEq (pVar 6) (pVar 8)))) (pe (pVar 6))) (aNil))))))
      (sSeq (sSet 3 (dLst (aNil)))
      (sSeq (sFor (iSeq (pe (pVar 1))) (tName 4) (sSeq (sSetF 5 (pe (pIndex (pVar 2) (pC (.int 1)))))
      (sSeq (sExpr (dMth "list" mAppend (qVar 3) (paCons (pTup (paCons (pCall cMin2 (paCons (pVar 5) (paCons (pVar 4) (paNil)))) (paCons (pCall cMax2 (paCons (pVar 5) (paCons (pVar 4) (paNil)))) (paNil)))) (paNil))))
      (sAsg (dTup (aCons (pe (pC (.int 0))) (aCons (nOp oSub (pIx (pVar 2) (pVar 4)) (pC (.int 1))) (aNil)))) (tTupT 2 (tsCons (tSub (qVar 2) (pVar 5)) (tsCons (tSub (qVar 2) (pVar 4)) (tsNil))))))))
      (sSeq (sAsg (dLc [8] (iR1 (aCons (pe (pVar 0)) (aNil))) (tName 8) (bV (pe (pOp oEq (pIx (pVar 2) (pVar 8)) (pC (.int 1))))) (pe (pVar 8))) (tLstT 2 (tsCons (tNameF 6) (tsCons (tNameF 7) (tsNil)))))
      (sRet (dMake "Tree" mk_Tree (aCons (pe (pVar 0)) (aCons (dCall cSorted (aCons (dLst (aStar (dVar 3) (aCons (dTup (aCons (pe (pVar 6)) (aCons (pe (pVar 7)) (aNil)))) (aNil)))) (aNil))) (aNil))))))))))

theorem d_tree_of_row {P : Program} {w : World} {K : PySem.W.Frag} {mg : Str → Option Value} {base : Heap} {k : Nat} {f : Addr} {cdv : Value} {A : Around} {outer : List Env} {s : Shared} {H : Hp} {E : XK} {sp_is_integer sp_is_list sp_is_index mk_Tree : DSp} {k0 : Nat} (B : Blt mg) (hgd : A.guards = some [])
    (hr : Room k (fX P w K mg base N_tree_of_row "tree_of_row" (defScope s_tree_of_row) f cdv A outer s H E).A) (h2k : 2 ≤ k) (hk1 : k0 + 1 ≤ k) (M_Tree : MkD P w K mg base k0 "Tree" 2 mk_Tree) (F_is_integer : FnD P w K mg base k "is_integer" 1 sp_is_integer) (F_is_list : FnD P w K mg base k "is_list" 1 sp_is_list) (F_is_index : FnD P w K mg base k "is_index" 2 sp_is_index) (c_MOST_HOUSES : ∃ t, mg "MOST_HOUSES" = some (.int 64 t)) (X_InvalidHouses : XcD P w K mg base "InvalidHouses" ["given"]) (X_InvalidRow : XcD P w K mg base "InvalidRow" ["given"]) :
    DB (fX P w K mg base N_tree_of_row "tree_of_row" (defScope s_tree_of_row) f cdv A outer s H E) (fW E) (defBody s_tree_of_row) (b_tree_of_row sp_is_integer sp_is_list sp_is_index mk_Tree) := by
  have S := S_tree_of_row
  have hr2 := hr.mono h2k
  exact db_cons (ds_if (DW.dt (dw_or (dt_not (dt_val (de_fnB F_is_integer hgd hr (by rfl) (pss_takes takes_f) (dpa_cons (dp_var (i := 0)) (dpa_nil))))) (dw_or1 (dt_not (dt_chainP (od_le (ru hr)) (od_le (ru hr)) (dp_int) (dp_var (i := 0)) (dp_gint rfl c_MOST_HOUSES)))))) (db_one (ds_raise rfl takes_f hr2 X_InvalidHouses rfl (da_cons (de_p (dp_var (i := 0))) (da_nil)))) (db_nil))
      (db_cons (ds_if (DW.dt (dw_or (dt_not (dt_val (de_fnB F_is_list hgd hr (by rfl) (pss_takes takes_f) (dpa_cons (dp_var (i := 1)) (dpa_nil))))) (dw_or (dt_cmpP (od_ne (ru hr)) (dp_callB cd_len (dpa_cons (dp_var (i := 1)) (dpa_nil)) rfl (B.g "len") boot_len) (dp_op od_sub (dp_var (i := 0)) (dp_int)) (nomark _)) (dw_or1 (dt_not (dt_val (de_callB (cd_all rfl) (da_cons (de_lc (own := [("house", 8)]) rfl S.nd (di_seq (de_p (dp_var (i := 1)))) (blkOk_by (own := [("house", 8)]) (by rfl)) (by decide) (fun z => dg_name (i := 8) S.nd rfl (by first | exact Or.inl rfl | exact Or.inr rfl)) (fun z => dts_nil) (fun z => de_fnB F_is_index hgd hr (by rfl) pss_no (dpa_cons (dp_var (i := 8)) (dpa_cons (dp_var (i := 0)) (dpa_nil))))) (da_nil)) rfl (B.g "all") boot_all))))))) (db_one (ds_raise rfl takes_f hr2 X_InvalidRow rfl (da_cons (de_p (dp_var (i := 1))) (da_nil)))) (db_nil))
      (db_cons (ds_set (i := 2) S.nd rfl (by first | exact Or.inl rfl | exact Or.inr rfl) (de_lc (own := [("house", 8)]) rfl S.nd (di_range1 rfl (B.g "range") (da_cons (de_p (dp_var (i := 0))) (da_nil))) (blkOk_by (own := [("house", 8)]) (by rfl)) (by decide) (fun z => dg_name (i := 8) S.nd rfl (by first | exact Or.inl rfl | exact Or.inr rfl)) (fun z => dts_nil) (fun z => de_op od_add (de_p (dp_int)) (de_callB cd_len (da_cons (de_lc (own := [("one", 6)]) rfl S.nd (di_seq (de_p (dp_var (i := 1)))) (blkOk_by (own := [("one", 6)]) (by rfl)) (by decide) (fun z => dg_name (i := 6) S.nd rfl (by first | exact Or.inl rfl | exact Or.inr rfl)) (fun z => dts_one (dt_cmpP (od_eq (ru hr)) (dp_var (i := 6)) (dp_var (i := 8)) (nomark _))) (fun z => de_p (dp_var (i := 6)))) (da_nil)) rfl (B.g "len") boot_len))))
      (db_cons (ds_set (i := 3) S.nd rfl (by first | exact Or.inl rfl | exact Or.inr rfl) (de_lst (da_nil)))
      (db_cons (ds_for own_f rfl (di_seq (de_p (dp_var (i := 1)))) (dg_name (i := 4) S.nd rfl (by first | exact Or.inl rfl | exact Or.inr rfl)) (db_cons (ds_setF (i := 5) S.nd rfl (by first | exact Or.inl rfl | exact Or.inr rfl) (de_p (dp_index (dp_var (i := 2)) (dp_int))))
      (db_cons (ds_expr (de_mth F.plainAttrs_list F.slot_list_append (by rfl) mu_append (dq_var (i := 3)) (dpa_cons (dp_tup (dpa_cons (dp_callB (cd_min2 rfl) (dpa_cons (dp_var (i := 5)) (dpa_cons (dp_var (i := 4)) (dpa_nil))) rfl (B.g "min") boot_min) (dpa_cons (dp_callB (cd_max2 rfl) (dpa_cons (dp_var (i := 5)) (dpa_cons (dp_var (i := 4)) (dpa_nil))) rfl (B.g "max") boot_max) (dpa_nil)))) (dpa_nil))))
      (db_one (ds_asg (de_tup (da_cons (de_p (dp_int)) (da_cons (de_opP od_sub (dp_ix (ru hr) (dp_var (i := 2)) (dp_var (i := 4))) (dp_int)) (da_nil)))) (dg_tup rfl (dgs_cons (dg_sub (ru hr) (dq_var (i := 2)) (dp_var (i := 5))) (dgs_cons (dg_sub (ru hr) (dq_var (i := 2)) (dp_var (i := 4))) (dgs_nil)))))))))
      (db_cons (ds_asg (de_lc (own := [("house", 8)]) rfl S.nd (di_range1 rfl (B.g "range") (da_cons (de_p (dp_var (i := 0))) (da_nil))) (blkOk_by (own := [("house", 8)]) (by rfl)) (by decide) (fun z => dg_name (i := 8) S.nd rfl (by first | exact Or.inl rfl | exact Or.inr rfl)) (fun z => dts_one (dt_cmpP (od_eq (ru hr)) (dp_ix (ru hr) (dp_var (i := 2)) (dp_var (i := 8))) (dp_int) (nomark _))) (fun z => de_p (dp_var (i := 8)))) (dg_lst rfl (dgs_cons (dg_nameF (i := 6) S.nd rfl (by first | exact Or.inl rfl | exact Or.inr rfl)) (dgs_cons (dg_nameF (i := 7) S.nd rfl (by first | exact Or.inl rfl | exact Or.inr rfl)) (dgs_nil)))))
      (db_one (ds_ret (de_make M_Tree hgd (hr.mono hk1) (by rfl) (pss_takes takes_f) (da_cons (de_p (dp_var (i := 0))) (da_cons (de_callB (cd_sorted (ru hr)) (da_cons (de_lst (da_star (de_var (i := 3)) (da_cons (de_tup (da_cons (de_p (dp_var (i := 6))) (da_cons (de_p (dp_var (i := 7))) (da_nil)))) (da_nil)))) (da_nil)) rfl (B.g "sorted") boot_sorted) (da_nil)))))))))))

abbrev s_law_cell : Stmt := top 22
abbrev N_law_cell : List Str := ["script", "k"]
abbrev p_law_cell : List Str := ["script", "k"]

theorem S_law_cell : FnScope N_law_cell p_law_cell (defScope s_law_cell) := ⟨rfl, rfl, rfl, by decide +kernel, rfl, by decide +kernel, by decide +kernel⟩

def b_law_cell : SF :=
  sRet (dIf (bV (pe (pOp oLt (pVar 1) (pCall cLen (paCons (pVar 0) (paNil)))))) (pe (pIx (pVar 0) (pVar 1))) (nOp oAdd (pOp oMul (pC (.int 49979723)) (pVar 1)) (pC (.int 201))))

theorem d_law_cell {P : Program} {w : World} {K : PySem.W.Frag} {mg : Str → Option Value} {base : Heap} {k : Nat} {f : Addr} {cdv : Value} {A : Around} {outer : List Env} {s : Shared} {H : Hp} {E : XK} (B : Blt mg) (hgd : A.guards = some [])
    (hr : Room k (fX P w K mg base N_law_cell "_law_cell" (defScope s_law_cell) f cdv A outer s H E).A) :
    DB (fX P w K mg base N_law_cell "_law_cell" (defScope s_law_cell) f cdv A outer s H E) (fW E) (defBody s_law_cell) (b_law_cell) := by
  have S := S_law_cell
  exact db_one (ds_ret (de_ifExp (dt_cmpP (od_lt (ru hr)) (dp_var (i := 1)) (dp_callB cd_len (dpa_cons (dp_var (i := 0)) (dpa_nil)) rfl (B.g "len") boot_len) (nomark _)) (de_p (dp_ix (ru hr) (dp_var (i := 0)) (dp_var (i := 1)))) (de_opP od_add (dp_op od_mul (dp_int) (dp_var (i := 1))) (dp_int))))

abbrev s_law_box : Stmt := top 23
abbrev N_law_box : List Str := ["cell"]
abbrev p_law_box : List Str := ["cell"]

theorem S_law_box : FnScope N_law_box p_law_box (defScope s_law_box) := ⟨rfl, rfl, rfl, by decide +kernel, rfl, by decide +kernel, by decide +kernel⟩

def b_law_box : SF :=
  sRet (dLst (aCons (nCall cMax2 (paCons (pC (.int 0)) (paCons (pOp oSub (pCall cAbs (paCons (pVar 0) (paNil))) (pOp oPow (pC (.int 10)) (pC (.int 18)))) (paNil)))) (aCons (nOp oMod (pCall cAbs (paCons (pVar 0) (paNil))) (pC (.int 2147483629))) (aCons (pe (pC (.int 0))) (aNil)))))

theorem d_law_box {P : Program} {w : World} {K : PySem.W.Frag} {mg : Str → Option Value} {base : Heap} {k : Nat} {f : Addr} {cdv : Value} {A : Around} {outer : List Env} {s : Shared} {H : Hp} {E : XK} (B : Blt mg) (hgd : A.guards = some [])
    (hr : Room k (fX P w K mg base N_law_box "_law_box" (defScope s_law_box) f cdv A outer s H E).A) :
    DB (fX P w K mg base N_law_box "_law_box" (defScope s_law_box) f cdv A outer s H E) (fW E) (defBody s_law_box) (b_law_box) := by
  have S := S_law_box
  exact db_one (ds_ret (de_lst (da_cons (de_callBP (cd_max2 rfl) (dpa_cons (dp_int) (dpa_cons (dp_op od_sub (dp_callB cd_abs (dpa_cons (dp_var (i := 0)) (dpa_nil)) rfl (B.g "abs") boot_abs) (dp_op od_pow (dp_int) (dp_int))) (dpa_nil))) rfl (B.g "max") boot_max) (da_cons (de_opP od_mod (dp_callB cd_abs (dpa_cons (dp_var (i := 0)) (dpa_nil)) rfl (B.g "abs") boot_abs) (dp_int)) (da_cons (de_p (dp_int)) (da_nil))))))

abbrev s_law_take : Stmt := top 24
abbrev N_law_take : List Str := ["box", "many", "digit", "number"]
abbrev p_law_take : List Str := ["box", "many"]

theorem S_law_take : FnScope N_law_take p_law_take (defScope s_law_take) := ⟨rfl, rfl, rfl, by decide +kernel, rfl, by decide +kernel, by decide +kernel⟩

def b_law_take : SF :=
  sSeq (sIf (bV (pe (pOp oGt (pIx (pPtr 0) (pC (.int 0))) (pC (.int 0))))) (sSeq (sSetF 2 (nOp oMod (pIx (pPtr 0) (pC (.int 0))) (pVar 1)))
      (sSeq (sAsg (nOp oDiv (pIx (pPtr 0) (pC (.int 0))) (pVar 1)) (tSub (qPtr 0) (pC (.int 0))))
      (sRet (pe (pVar 2))))) (sNil))
      (sSeq (sAsg (nOp oAdd (pIx (pPtr 0) (pC (.int 2))) (pC (.int 1))) (tSub (qPtr 0) (pC (.int 2))))
      (sSeq (sSetF 3 (nOp oMod (pOp oPow (pOp oAdd (pOp oAdd (pIx (pPtr 0) (pC (.int 1))) (pOp oMul (pC (.int 7919)) (pIx (pPtr 0) (pC (.int 2))))) (pC (.int 201))) (pC (.int 5))) (pC (.int 2147483647))))
      (sSeq (sSetF 3 (nOp oMod (pOp oPow (pOp oAdd (pVar 3) (pOp oMul (pC (.int 104729)) (pIx (pPtr 0) (pC (.int 2))))) (pC (.int 3))) (pC (.int 2147483587))))
      (sRet (nOp oMod (pOp oDiv (pVar 3) (pC (.int 16))) (pVar 1))))))

theorem d_law_take {P : Program} {w : World} {K : PySem.W.Frag} {mg : Str → Option Value} {base : Heap} {k : Nat} {f : Addr} {cdv : Value} {A : Around} {outer : List Env} {s : Shared} {H : Hp} {E : XK} (B : Blt mg) (hgd : A.guards = some [])
    (hr : Room k (fX P w K mg base N_law_take "_law_take" (defScope s_law_take) f cdv A outer s H E).A) :
    DB (fX P w K mg base N_law_take "_law_take" (defScope s_law_take) f cdv A outer s H E) (fW E) (defBody s_law_take) (b_law_take) := by
  have S := S_law_take
  exact db_cons (ds_if (dt_cmpP (od_gt (ru hr)) (dp_ix (ru hr) (dp_ptr (i := 0)) (dp_int)) (dp_int) (nomark _)) (db_cons (ds_setF (i := 2) S.nd rfl (by first | exact Or.inl rfl | exact Or.inr rfl) (de_opP od_mod (dp_ix (ru hr) (dp_ptr (i := 0)) (dp_int)) (dp_var (i := 1))))
      (db_cons (ds_asg (de_opP od_div (dp_ix (ru hr) (dp_ptr (i := 0)) (dp_int)) (dp_var (i := 1))) (dg_sub (ru hr) (dq_ptr (i := 0)) (dp_int)))
      (db_one (ds_ret (de_p (dp_var (i := 2))))))) (db_nil))
      (db_cons (ds_asg (de_opP od_add (dp_ix (ru hr) (dp_ptr (i := 0)) (dp_int)) (dp_int)) (dg_sub (ru hr) (dq_ptr (i := 0)) (dp_int)))
      (db_cons (ds_setF (i := 3) S.nd rfl (by first | exact Or.inl rfl | exact Or.inr rfl) (de_opP od_mod (dp_op od_pow (dp_op od_add (dp_op od_add (dp_ix (ru hr) (dp_ptr (i := 0)) (dp_int)) (dp_op od_mul (dp_int) (dp_ix (ru hr) (dp_ptr (i := 0)) (dp_int)))) (dp_int)) (dp_int)) (dp_int)))
      (db_cons (ds_setF (i := 3) S.nd rfl (by first | exact Or.inl rfl | exact Or.inr rfl) (de_opP od_mod (dp_op od_pow (dp_op od_add (dp_var (i := 3)) (dp_op od_mul (dp_int) (dp_ix (ru hr) (dp_ptr (i := 0)) (dp_int)))) (dp_int)) (dp_int)))
      (db_one (ds_ret (de_opP od_mod (dp_op od_div (dp_var (i := 3)) (dp_int)) (dp_var (i := 1))))))))

abbrev s_law_mixed : Stmt := top 25
abbrev N_law_mixed : List Str := ["box", "some", "left", "found"]
abbrev p_law_mixed : List Str := ["box", "some"]

theorem S_law_mixed : FnScope N_law_mixed p_law_mixed (defScope s_law_mixed) := ⟨rfl, rfl, rfl, by decide +kernel, rfl, by decide +kernel, by decide +kernel⟩

def b_law_mixed (sp_law_take : DSp) : SF :=
  sSeq (sPar 2 3 (aCons (nCall cList (paCons (pVar 1) (paNil))) (aCons (dLst (aNil)) (aNil))))
      (sSeq (sWhile (bV (pe (pOp oNe (pVar 2) (pLst (paNil))))) (sExpr (dMthE "list" mAppend 3 (aCons (dMthA "list" mPop 2 (aCons (dFn sp_law_take (aCons (pe (pVar 0)) (aCons (nCall cLen (paCons (pVar 2) (paNil))) (aNil)))) (aNil))) (aNil)))))
      (sRet (dMove 3)))

theorem d_law_mixed {P : Program} {w : World} {K : PySem.W.Frag} {mg : Str → Option Value} {base : Heap} {k : Nat} {f : Addr} {cdv : Value} {A : Around} {outer : List Env} {s : Shared} {H : Hp} {E : XK} {sp_law_take : DSp} (B : Blt mg) (hgd : A.guards = some [])
    (hr : Room k (fX P w K mg base N_law_mixed "_law_mixed" (defScope s_law_mixed) f cdv A outer s H E).A) (F_law_take : FnD P w K mg base k "_law_take" 2 sp_law_take) :
    DB (fX P w K mg base N_law_mixed "_law_mixed" (defScope s_law_mixed) f cdv A outer s H E) (fW E) (defBody s_law_mixed) (b_law_mixed sp_law_take) := by
  have S := S_law_mixed
  exact db_cons (ds_par (i := 2) (j := 3) rfl S.nd (ha := da_cons (de_callTyP cd_list (dpa_cons (dp_var (i := 1)) (dpa_nil)) rfl (B.g "list") boot_list) (da_cons (de_lst (da_nil)) (da_nil))))
      (db_cons (ds_while own_f (dt_cmpP (od_ne (ru hr)) (dp_var (i := 2)) (dp_lst (dpa_nil)) (nomark _)) (db_one (ds_expr (de_mthE (i := 3) F.plainAttrs_list F.slot_list_append (by rfl) mu_append (da_cons (de_mthA (i := 2) F.plainAttrs_list F.slot_list_pop (by rfl) mu_pop (da_cons (de_fn F_law_take hgd hr (by rfl) (pss_takes takes_f) (da_cons (de_p (dp_var (i := 0))) (da_cons (de_callBP cd_len (dpa_cons (dp_var (i := 2)) (dpa_nil)) rfl (B.g "len") boot_len) (da_nil)))) (da_nil))) (da_nil))))))
      (db_one (ds_ret (de_move (i := 3)))))

abbrev s_law_roads : Stmt := top 26
abbrev N_law_roads : List Str := ["box", "most", "houses", "sort", "roads", "names", "k", "at", "one", "other"]
abbrev p_law_roads : List Str := ["box", "most"]

theorem S_law_roads : FnScope N_law_roads p_law_roads (defScope s_law_roads) := ⟨rfl, rfl, rfl, by decide +kernel, rfl, by decide +kernel, by decide +kernel⟩

def b_law_roads (sp_law_take sp_law_mixed : DSp) : SF :=
  sSeq (sPar3 2 3 4 (aCons (dOp oAdd (pe (pC (.int 1))) (dFn sp_law_take (aCons (pe (pVar 0)) (aCons (pe (pVar 1)) (aNil))))) (aCons (dFn sp_law_take (aCons (pe (pVar 0)) (aCons (pe (pC (.int 4))) (aNil)))) (aCons (dLst (aNil)) (aNil)))))
      (sSeq (sSetF 5 (dFn sp_law_mixed (aCons (pe (pVar 0)) (aCons (dLRg (rg1 (pVar 2))) (aNil)))))
      (sSeq (sFor (iR2 (aCons (pe (pC (.int 1))) (aCons (pe (pVar 2)) (aNil)))) (tName 6) (sSeq (sSetF 7 (dIx (dLst (aCons (dFn sp_law_take (aCons (pe (pVar 0)) (aCons (pe (pVar 6)) (aNil)))) (aCons (nOp oSub (pVar 6) (pC (.int 1))) (aCons (dCall cMax2 (aCons (pe (pC (.int 0))) (aCons (dOp oSub (nOp oSub (pVar 6) (pC (.int 1))) (dFn sp_law_take (aCons (pe (pVar 0)) (aCons (pe (pC (.int 3))) (aNil))))) (aNil)))) (aCons (pe (pC (.int 0))) (aNil)))))) (pe (pVar 3))))
      (sSeq (sPar 8 9 (aCons (pe (pIx (pVar 5) (pVar 7))) (aCons (pe (pIx (pVar 5) (pVar 6))) (aNil))))
      (sExpr (dMth "list" mAppend (qVar 4) (paCons (pTup (paCons (pCall cMin2 (paCons (pVar 8) (paCons (pVar 9) (paNil)))) (paCons (pCall cMax2 (paCons (pVar 8) (paCons (pVar 9) (paNil)))) (paNil)))) (paNil)))))))
      (sRet (dLst (aCons (pe (pVar 2)) (aCons (nCall cSorted (paCons (pVar 4) (paNil))) (aNil)))))))

theorem d_law_roads {P : Program} {w : World} {K : PySem.W.Frag} {mg : Str → Option Value} {base : Heap} {k : Nat} {f : Addr} {cdv : Value} {A : Around} {outer : List Env} {s : Shared} {H : Hp} {E : XK} {sp_law_take sp_law_mixed : DSp} (B : Blt mg) (hgd : A.guards = some [])
    (hr : Room k (fX P w K mg base N_law_roads "_law_roads" (defScope s_law_roads) f cdv A outer s H E).A) (F_law_take : FnD P w K mg base k "_law_take" 2 sp_law_take) (F_law_mixed : FnD P w K mg base k "_law_mixed" 2 sp_law_mixed) :
    DB (fX P w K mg base N_law_roads "_law_roads" (defScope s_law_roads) f cdv A outer s H E) (fW E) (defBody s_law_roads) (b_law_roads sp_law_take sp_law_mixed) := by
  have S := S_law_roads
  exact db_cons (ds_par3 (i := 2) (j := 3) (l := 4) rfl S.nd (ha := da_cons (de_op od_add (de_p (dp_int)) (de_fn F_law_take hgd hr (by rfl) (pss_takes takes_f) (da_cons (de_p (dp_var (i := 0))) (da_cons (de_p (dp_var (i := 1))) (da_nil))))) (da_cons (de_fn F_law_take hgd hr (by rfl) (pss_takes takes_f) (da_cons (de_p (dp_var (i := 0))) (da_cons (de_p (dp_int)) (da_nil)))) (da_cons (de_lst (da_nil)) (da_nil)))))
      (db_cons (ds_setF (i := 5) S.nd rfl (by first | exact Or.inl rfl | exact Or.inr rfl) (de_fn F_law_mixed hgd hr (by rfl) (pss_takes takes_f) (da_cons (de_p (dp_var (i := 0))) (da_cons (de_listRg rfl rfl (B.g "list") (drg_1 rfl (B.g "range") (dp_var (i := 2)))) (da_nil)))))
      (db_cons (ds_for own_f rfl (di_range2 rfl (B.g "range") (da_cons (de_p (dp_int)) (da_cons (de_p (dp_var (i := 2))) (da_nil)))) (dg_name (i := 6) S.nd rfl (by first | exact Or.inl rfl | exact Or.inr rfl)) (db_cons (ds_setF (i := 7) S.nd rfl (by first | exact Or.inl rfl | exact Or.inr rfl) (de_ix (ru hr) (de_lst (da_cons (de_fn F_law_take hgd hr (by rfl) (pss_takes takes_f) (da_cons (de_p (dp_var (i := 0))) (da_cons (de_p (dp_var (i := 6))) (da_nil)))) (da_cons (de_opP od_sub (dp_var (i := 6)) (dp_int)) (da_cons (de_callB (cd_max2 rfl) (da_cons (de_p (dp_int)) (da_cons (de_op od_sub (de_opP od_sub (dp_var (i := 6)) (dp_int)) (de_fn F_law_take hgd hr (by rfl) (pss_takes takes_f) (da_cons (de_p (dp_var (i := 0))) (da_cons (de_p (dp_int)) (da_nil))))) (da_nil))) rfl (B.g "max") boot_max) (da_cons (de_p (dp_int)) (da_nil)))))) (de_p (dp_var (i := 3)))))
      (db_cons (ds_par (i := 8) (j := 9) rfl S.nd (ha := da_cons (de_p (dp_ix (ru hr) (dp_var (i := 5)) (dp_var (i := 7)))) (da_cons (de_p (dp_ix (ru hr) (dp_var (i := 5)) (dp_var (i := 6)))) (da_nil))))
      (db_one (ds_expr (de_mth F.plainAttrs_list F.slot_list_append (by rfl) mu_append (dq_var (i := 4)) (dpa_cons (dp_tup (dpa_cons (dp_callB (cd_min2 rfl) (dpa_cons (dp_var (i := 8)) (dpa_cons (dp_var (i := 9)) (dpa_nil))) rfl (B.g "min") boot_min) (dpa_cons (dp_callB (cd_max2 rfl) (dpa_cons (dp_var (i := 8)) (dpa_cons (dp_var (i := 9)) (dpa_nil))) rfl (B.g "max") boot_max) (dpa_nil)))) (dpa_nil))))))))
      (db_one (ds_ret (de_lst (da_cons (de_p (dp_var (i := 2))) (da_cons (de_callBP (cd_sorted (ru hr)) (dpa_cons (dp_var (i := 4)) (dpa_nil)) rfl (B.g "sorted") boot_sorted) (da_nil))))))))

abbrev s_law_near : Stmt := top 27
abbrev N_law_near : List Str := ["houses", "roads", "found", "u", "v", "house", "some"]
abbrev p_law_near : List Str := ["houses", "roads"]

theorem S_law_near : FnScope N_law_near p_law_near (defScope s_law_near) := ⟨rfl, rfl, rfl, by decide +kernel, rfl, by decide +kernel, by decide +kernel⟩

def b_law_near : SF :=
  sSeq (sSetX false 2 (dLc [5] (iR1 (aCons (pe (pVar 0)) (aNil))) (tName 5) (bYes) (dLst (aNil))))
      (sSeq (sFor (iSeq (pe (pVar 1))) (tTupT 2 (tsCons (tName 3) (tsCons (tName 4) (tsNil)))) (sSeq (sExpr (dMth "list" mAppend (qIx (qVar 2) (pVar 3)) (paCons (pVar 4) (paNil))))
      (sExpr (dMth "list" mAppend (qIx (qVar 2) (pVar 4)) (paCons (pVar 3) (paNil))))))
      (sRet (dLc [6] (iSeq (dVar 2)) (tName 6) (bYes) (nCall cSorted (paCons (pVar 6) (paNil))))))

theorem d_law_near {P : Program} {w : World} {K : PySem.W.Frag} {mg : Str → Option Value} {base : Heap} {k : Nat} {f : Addr} {cdv : Value} {A : Around} {outer : List Env} {s : Shared} {H : Hp} {E : XK} (B : Blt mg) (hgd : A.guards = some [])
    (hr : Room k (fX P w K mg base N_law_near "_law_near" (defScope s_law_near) f cdv A outer s H E).A) :
    DB (fX P w K mg base N_law_near "_law_near" (defScope s_law_near) f cdv A outer s H E) (fW E) (defBody s_law_near) (b_law_near) := by
  have S := S_law_near
  exact db_cons (ds_setLc (frz := false) (own := [("house", 5)]) (i := 2) rfl S.nd rfl rfl (sw_true rfl rfl rfl (by decide +kernel)) (di_range1 rfl (B.g "range") (da_cons (de_p (dp_var (i := 0))) (da_nil))) (blkOk_by (own := [("house", 5)]) (by rfl)) (by decide) (fun z => dg_name (i := 5) S.nd rfl (by first | exact Or.inl rfl | exact Or.inr rfl)) (fun z => dts_nil) (fun z => de_lst (da_nil)))
      (db_cons (ds_for own_f rfl (di_seq (de_p (dp_var (i := 1)))) (dg_tup rfl (dgs_cons (dg_name (i := 3) S.nd rfl (by first | exact Or.inl rfl | exact Or.inr rfl)) (dgs_cons (dg_name (i := 4) S.nd rfl (by first | exact Or.inl rfl | exact Or.inr rfl)) (dgs_nil)))) (db_cons (ds_expr (de_mth F.plainAttrs_list F.slot_list_append (by rfl) mu_append (dq_ix (dq_var (i := 2)) (dp_var (i := 3))) (dpa_cons (dp_var (i := 4)) (dpa_nil))))
      (db_one (ds_expr (de_mth F.plainAttrs_list F.slot_list_append (by rfl) mu_append (dq_ix (dq_var (i := 2)) (dp_var (i := 4))) (dpa_cons (dp_var (i := 3)) (dpa_nil)))))))
      (db_one (ds_ret (de_lc (own := [("some", 6)]) rfl S.nd (di_seq (de_var (i := 2))) (blkOk_by (own := [("some", 6)]) (by rfl)) (by decide) (fun z => dg_name (i := 6) S.nd rfl (by first | exact Or.inl rfl | exact Or.inr rfl)) (fun z => dts_nil) (fun z => de_callBP (cd_sorted (ru hr)) (dpa_cons (dp_var (i := 6)) (dpa_nil)) rfl (B.g "sorted") boot_sorted)))))

abbrev s_law_is : Stmt := top 28
abbrev N_law_is : List Str := ["told", "due", "k"]
abbrev p_law_is : List Str := ["told", "due"]

theorem S_law_is : FnScope N_law_is p_law_is (defScope s_law_is) := ⟨rfl, rfl, rfl, by decide +kernel, rfl, by decide +kernel, by decide +kernel⟩

def b_law_is (sp_law_is : DSp) : SF :=
  sSeq (sIf (bP (pCall cIsa (paCons (pVar 1) (paCons (pTup (paCons (pC (.typ "list")) (paCons (pC (.typ "tuple")) (paNil)))) (paNil))))) (sSeq (sIf (bOr (bNot (bP (pCall cIsa (paCons (pVar 0) (paCons (pTup (paCons (pC (.typ "list")) (paCons (pC (.typ "tuple")) (paNil)))) (paNil)))))) (bOr (bV (pe (pOp oNe (pCall cIsa (paCons (pVar 0) (paCons (pC (.typ "list")) (paNil)))) (pCall cIsa (paCons (pVar 1) (paCons (pC (.typ "list")) (paNil))))))) (bV (pe (pOp oNe (pCall cLen (paCons (pVar 0) (paNil))) (pCall cLen (paCons (pVar 1) (paNil)))))))) (sRet (pe (pC (.bl false)))) (sNil))
      (sRet (dOp oEq (dLc [2] (iR1 (aCons (nCall cLen (paCons (pVar 1) (paNil))) (aNil))) (tName 2) (bNot (bV (dFnB sp_law_is (paCons (pIx (pVar 0) (pVar 2)) (paCons (pIx (pVar 1) (pVar 2)) (paNil)))))) (pe (pVar 2))) (dLst (aNil))))) (sNil))
      (sSeq (sIf (bV (pe (pOp oIs (pVar 1) (pC .non)))) (sRet (pe (pOp oIs (pVar 0) (pC .non)))) (sNil))
      (sSeq (sIf (bP (pCall cIsa (paCons (pVar 1) (paCons (pC (.typ "bool")) (paNil))))) (sRet (pe (pAnd (pCall cIsa (paCons (pVar 0) (paCons (pC (.typ "bool")) (paNil)))) (pOp oEq (pVar 0) (pVar 1))))) (sNil))
      (sSeq (sIf (bP (pCall cIsa (paCons (pVar 1) (paCons (pC (.typ "str")) (paNil))))) (sRet (pe (pAnd (pCall cIsa (paCons (pVar 0) (paCons (pC (.typ "str")) (paNil)))) (pOp oEq (pVar 0) (pVar 1))))) (sNil))
      (sRet (pe (pAnd (pCall cIsa (paCons (pVar 0) (paCons (pC (.typ "int")) (paNil)))) (pAnd (pNot (pCall cIsa (paCons (pVar 0) (paCons (pC (.typ "bool")) (paNil))))) (pOp oEq (pVar 0) (pVar 1)))))))))

theorem d_law_is {P : Program} {w : World} {K : PySem.W.Frag} {mg : Str → Option Value} {base : Heap} {k : Nat} {f : Addr} {cdv : Value} {A : Around} {outer : List Env} {s : Shared} {H : Hp} {E : XK} {sp_law_is : DSp} (B : Blt mg) (hgd : A.guards = some [])
    (hr : Room k (fX P w K mg base N_law_is "_law_is" (defScope s_law_is) f cdv A outer s H E).A) (F_law_is : FnD P w K mg base k "_law_is" 2 sp_law_is) :
    DB (fX P w K mg base N_law_is "_law_is" (defScope s_law_is) f cdv A outer s H E) (fW E) (defBody s_law_is) (b_law_is sp_law_is) := by
  have S := S_law_is
  exact db_cons (ds_if (dt_P (dp_callB cd_isa (dpa_cons (dp_var (i := 1)) (dpa_cons (dp_tup (dpa_cons (dp_typ rfl (B.g "list") boot_list) (dpa_cons (dp_typ rfl (B.g "tuple") boot_tuple) (dpa_nil)))) (dpa_nil))) rfl (B.g "isinstance") boot_isinstance)) (db_cons (ds_if (DW.dt (dw_or (dt_not (dt_P (dp_callB cd_isa (dpa_cons (dp_var (i := 0)) (dpa_cons (dp_tup (dpa_cons (dp_typ rfl (B.g "list") boot_list) (dpa_cons (dp_typ rfl (B.g "tuple") boot_tuple) (dpa_nil)))) (dpa_nil))) rfl (B.g "isinstance") boot_isinstance))) (dw_or (dt_cmpP (od_ne (ru hr)) (dp_callB cd_isa (dpa_cons (dp_var (i := 0)) (dpa_cons (dp_typ rfl (B.g "list") boot_list) (dpa_nil))) rfl (B.g "isinstance") boot_isinstance) (dp_callB cd_isa (dpa_cons (dp_var (i := 1)) (dpa_cons (dp_typ rfl (B.g "list") boot_list) (dpa_nil))) rfl (B.g "isinstance") boot_isinstance) (nomark _)) (dw_or1 (dt_cmpP (od_ne (ru hr)) (dp_callB cd_len (dpa_cons (dp_var (i := 0)) (dpa_nil)) rfl (B.g "len") boot_len) (dp_callB cd_len (dpa_cons (dp_var (i := 1)) (dpa_nil)) rfl (B.g "len") boot_len) (nomark _)))))) (db_one (ds_ret (de_p (dp_bl)))) (db_nil))
      (db_one (ds_ret (de_cmp (od_eq (ru hr)) (de_lc (own := [("k", 2)]) rfl S.nd (di_range1 rfl (B.g "range") (da_cons (de_callBP cd_len (dpa_cons (dp_var (i := 1)) (dpa_nil)) rfl (B.g "len") boot_len) (da_nil))) (blkOk_by (own := [("k", 2)]) (by rfl)) (by decide) (fun z => dg_name (i := 2) S.nd rfl (by first | exact Or.inl rfl | exact Or.inr rfl)) (fun z => dts_one (dt_not (dt_val (de_fnB F_law_is hgd hr (by rfl) pss_no (dpa_cons (dp_ix (ru hr) (dp_var (i := 0)) (dp_var (i := 2))) (dpa_cons (dp_ix (ru hr) (dp_var (i := 1)) (dp_var (i := 2))) (dpa_nil))))))) (fun z => de_p (dp_var (i := 2)))) (de_lst (da_nil)) (nomark _))))) (db_nil))
      (db_cons (ds_if (dt_cmpP od_is (dp_var (i := 1)) (dp_non) (nomark _)) (db_one (ds_ret (de_p (dp_cmp od_is (dp_var (i := 0)) (dp_non) (nomark _))))) (db_nil))
      (db_cons (ds_if (dt_P (dp_callB cd_isa (dpa_cons (dp_var (i := 1)) (dpa_cons (dp_typ rfl (B.g "bool") boot_bool) (dpa_nil))) rfl (B.g "isinstance") boot_isinstance)) (db_one (ds_ret (de_p (dp_and (dp_callB cd_isa (dpa_cons (dp_var (i := 0)) (dpa_cons (dp_typ rfl (B.g "bool") boot_bool) (dpa_nil))) rfl (B.g "isinstance") boot_isinstance) (dp_one (dp_cmp (od_eq (ru hr)) (dp_var (i := 0)) (dp_var (i := 1)) (nomark _))))))) (db_nil))
      (db_cons (ds_if (dt_P (dp_callB cd_isa (dpa_cons (dp_var (i := 1)) (dpa_cons (dp_typ rfl (B.g "str") boot_str) (dpa_nil))) rfl (B.g "isinstance") boot_isinstance)) (db_one (ds_ret (de_p (dp_and (dp_callB cd_isa (dpa_cons (dp_var (i := 0)) (dpa_cons (dp_typ rfl (B.g "str") boot_str) (dpa_nil))) rfl (B.g "isinstance") boot_isinstance) (dp_one (dp_cmp (od_eq (ru hr)) (dp_var (i := 0)) (dp_var (i := 1)) (nomark _))))))) (db_nil))
      (db_one (ds_ret (de_p (dp_and (dp_callB cd_isa (dpa_cons (dp_var (i := 0)) (dpa_cons (dp_typ rfl (B.g "int") boot_int) (dpa_nil))) rfl (B.g "isinstance") boot_isinstance) (dp_and (dp_not (dp_callB cd_isa (dpa_cons (dp_var (i := 0)) (dpa_cons (dp_typ rfl (B.g "bool") boot_bool) (dpa_nil))) rfl (B.g "isinstance") boot_isinstance)) (dp_one (dp_cmp (od_eq (ru hr)) (dp_var (i := 0)) (dp_var (i := 1)) (nomark _)))))))))))

abbrev s_law_very : Stmt := top 29
abbrev N_law_very : List Str := ["given", "thing", "same"]
abbrev p_law_very : List Str := ["given", "thing"]

theorem S_law_very : FnScope N_law_very p_law_very (defScope s_law_very) := ⟨rfl, rfl, rfl, by decide +kernel, rfl, by decide +kernel, by decide +kernel⟩

def b_law_very : SF :=
  sSeq (sIf (bP (pCall cIsa (paCons (pVar 1) (paCons (pC (.typ "list")) (paNil))))) (sExpr (dMth "list" mAppend (qVar 1) (paCons (pC (.str ("more" : Str))) (paNil)))) (sNil))
      (sSeq (sIf (bP (pCall cIsa (paCons (pVar 1) (paCons (pC (.typ "dict")) (paNil))))) (sAsg (pe (pC (.int 1))) (tSub (qVar 1) (pC (.str ("more" : Str))))) (sNil))
      (sSeq (sSetF 2 (pe (pOp oEq (pCall cRepr (paCons (pVar 0) (paNil))) (pCall cRepr (paCons (pVar 1) (paNil))))))
      (sSeq (sIf (bP (pCall cIsa (paCons (pVar 1) (paCons (pC (.typ "list")) (paNil))))) (sExpr (dMth0 "list" mPop (qVar 1))) (sNil))
      (sSeq (sIf (bP (pCall cIsa (paCons (pVar 1) (paCons (pC (.typ "dict")) (paNil))))) (sExpr (dMth "dict" mDPop (qVar 1) (paCons (pC (.str ("more" : Str))) (paNil)))) (sNil))
      (sRet (pe (pVar 2)))))))

theorem d_law_very {P : Program} {w : World} {K : PySem.W.Frag} {mg : Str → Option Value} {base : Heap} {k : Nat} {f : Addr} {cdv : Value} {A : Around} {outer : List Env} {s : Shared} {H : Hp} {E : XK} (B : Blt mg) (hgd : A.guards = some [])
    (hr : Room k (fX P w K mg base N_law_very "_law_very" (defScope s_law_very) f cdv A outer s H E).A) :
    DB (fX P w K mg base N_law_very "_law_very" (defScope s_law_very) f cdv A outer s H E) (fW E) (defBody s_law_very) (b_law_very) := by
  have S := S_law_very
  exact db_cons (ds_if (dt_P (dp_callB cd_isa (dpa_cons (dp_var (i := 1)) (dpa_cons (dp_typ rfl (B.g "list") boot_list) (dpa_nil))) rfl (B.g "isinstance") boot_isinstance)) (db_one (ds_expr (de_mth F.plainAttrs_list F.slot_list_append (by rfl) mu_append (dq_var (i := 1)) (dpa_cons (dp_str) (dpa_nil))))) (db_nil))
      (db_cons (ds_if (dt_P (dp_callB cd_isa (dpa_cons (dp_var (i := 1)) (dpa_cons (dp_typ rfl (B.g "dict") boot_dict) (dpa_nil))) rfl (B.g "isinstance") boot_isinstance)) (db_one (ds_asg (de_p (dp_int)) (dg_sub (ru hr) (dq_var (i := 1)) (dp_str)))) (db_nil))
      (db_cons (ds_setF (i := 2) S.nd rfl (by first | exact Or.inl rfl | exact Or.inr rfl) (de_p (dp_cmp (od_eq (ru hr)) (dp_callB (cd_repr hgd (ru hr)) (dpa_cons (dp_var (i := 0)) (dpa_nil)) rfl (B.g "repr") boot_repr) (dp_callB (cd_repr hgd (ru hr)) (dpa_cons (dp_var (i := 1)) (dpa_nil)) rfl (B.g "repr") boot_repr) (nomark _))))
      (db_cons (ds_if (dt_P (dp_callB cd_isa (dpa_cons (dp_var (i := 1)) (dpa_cons (dp_typ rfl (B.g "list") boot_list) (dpa_nil))) rfl (B.g "isinstance") boot_isinstance)) (db_one (ds_expr (de_mth0 F.plainAttrs_list F.slot_list_pop (by rfl) mu_pop (dq_var (i := 1))))) (db_nil))
      (db_cons (ds_if (dt_P (dp_callB cd_isa (dpa_cons (dp_var (i := 1)) (dpa_cons (dp_typ rfl (B.g "dict") boot_dict) (dpa_nil))) rfl (B.g "isinstance") boot_isinstance)) (db_one (ds_expr (de_mth F.plainAttrs_dict F.slot_dict_pop (by rfl) mu_dpop (dq_var (i := 1)) (dpa_cons (dp_str) (dpa_nil))))) (db_nil))
      (db_one (ds_ret (de_p (dp_var (i := 2)))))))))

abbrev s_law_row : Stmt := top 30
abbrev N_law_row : List Str := ["houses", "roads", "left", "found", "turn", "end", "goal", "some"]
abbrev p_law_row : List Str := ["houses", "roads"]

theorem S_law_row : FnScope N_law_row p_law_row (defScope s_law_row) := ⟨rfl, rfl, rfl, by decide +kernel, rfl, by decide +kernel, by decide +kernel⟩

def b_law_row (sp_law_near : DSp) : SF :=
  sFz 1 (sSeq (sPar 2 3 (aCons (dLc [7] (iSeq (dFz (dFn sp_law_near (aCons (pe (pVar 0)) (aCons (pe (pVar 1)) (aNil)))))) (tName 7) (bYes) (nCall cList (paCons (pVar 7) (paNil)))) (aCons (dLst (aNil)) (aNil))))
      (sSeq (sFor (iR1 (aCons (nOp oSub (pVar 0) (pC (.int 2))) (aNil))) (tName 4) (sSeq (sSetF 5 (dBor (dIndex (dLc [7] (iSeq (dVar 2)) (tName 7) (bYes) (nCall cLen (paCons (pVar 7) (paNil)))) (pC (.int 1)))))
      (sSeq (sSetF 6 (dMth0 "list" mPop (qIx (qVar 2) (pVar 5))))
      (sSeq (sExpr (dMth "list" mRemove (qIx (qVar 2) (pVar 6)) (paCons (pVar 5) (paNil))))
      (sExpr (dMth "list" mAppend (qVar 3) (paCons (pVar 6) (paNil))))))))
      (sRet (dMove 3))))

theorem d_law_row {P : Program} {w : World} {K : PySem.W.Frag} {mg : Str → Option Value} {base : Heap} {k : Nat} {f : Addr} {cdv : Value} {A : Around} {outer : List Env} {s : Shared} {H : Hp} {E : XK} {sp_law_near : DSp} (B : Blt mg) (hgd : A.guards = some [])
    (hr : Room k (fX P w K mg base N_law_row "_law_row" (defScope s_law_row) f cdv A outer s H E).A) (F_law_near : FnD P w K mg base k "_law_near" 2 sp_law_near) :
    DB (fX P w K mg base N_law_row "_law_row" (defScope s_law_row) f cdv A outer s H E) (fW E) (defBody s_law_row) (b_law_row sp_law_near) := by
  have S := S_law_row
  exact db_fz 1 (db_cons (ds_par (i := 2) (j := 3) rfl S.nd (ha := da_cons (de_lc (own := [("some", 7)]) rfl S.nd (di_seq (de_fz (de_fn F_law_near hgd hr (by rfl) (pss_takes takes_f) (da_cons (de_p (dp_var (i := 0))) (da_cons (de_p (dp_var (i := 1))) (da_nil)))))) (blkOk_by (own := [("some", 7)]) (by rfl)) (by decide) (fun z => dg_name (i := 7) S.nd rfl (by first | exact Or.inl rfl | exact Or.inr rfl)) (fun z => dts_nil) (fun z => de_callTyP cd_list (dpa_cons (dp_var (i := 7)) (dpa_nil)) rfl (B.g "list") boot_list)) (da_cons (de_lst (da_nil)) (da_nil))))
      (db_cons (ds_for own_f rfl (di_range1 rfl (B.g "range") (da_cons (de_opP od_sub (dp_var (i := 0)) (dp_int)) (da_nil))) (dg_name (i := 4) S.nd rfl (by first | exact Or.inl rfl | exact Or.inr rfl)) (db_cons (ds_setF (i := 5) S.nd rfl (by first | exact Or.inl rfl | exact Or.inr rfl) (de_bor (de_index (de_lc (own := [("some", 7)]) rfl S.nd (di_seq (de_var (i := 2))) (blkOk_by (own := [("some", 7)]) (by rfl)) (by decide) (fun z => dg_name (i := 7) S.nd rfl (by first | exact Or.inl rfl | exact Or.inr rfl)) (fun z => dts_nil) (fun z => de_callBP cd_len (dpa_cons (dp_var (i := 7)) (dpa_nil)) rfl (B.g "len") boot_len)) (dp_int))))
      (db_cons (ds_setF (i := 6) S.nd rfl (by first | exact Or.inl rfl | exact Or.inr rfl) (de_mth0 F.plainAttrs_list F.slot_list_pop (by rfl) mu_pop (dq_ix (dq_var (i := 2)) (dp_var (i := 5)))))
      (db_cons (ds_expr (de_mth F.plainAttrs_list F.slot_list_remove (by rfl) (mu_remove (ru hr)) (dq_ix (dq_var (i := 2)) (dp_var (i := 6))) (dpa_cons (dp_var (i := 5)) (dpa_nil))))
      (db_one (ds_expr (de_mth F.plainAttrs_list F.slot_list_append (by rfl) mu_append (dq_var (i := 3)) (dpa_cons (dp_var (i := 6)) (dpa_nil)))))))))
      (db_one (ds_ret (de_move (i := 3))))))

abbrev s_law_all_rows : Stmt := top 31
abbrev N_law_all_rows : List Str := ["houses", "found", "turn", "longer", "row", "house"]
abbrev p_law_all_rows : List Str := ["houses"]

theorem S_law_all_rows : FnScope N_law_all_rows p_law_all_rows (defScope s_law_all_rows) := ⟨rfl, rfl, rfl, by decide +kernel, rfl, by decide +kernel, by decide +kernel⟩

def b_law_all_rows : SF :=
  sSeq (sSetF 1 (dLst (aCons (dLst (aNil)) (aNil))))
      (sSeq (sFor (iR1 (aCons (nOp oSub (pVar 0) (pC (.int 2))) (aNil))) (tName 2) (sSeq (sSetF 3 (dLst (aNil)))
      (sSeq (sFor (iSeq (pe (pVar 1))) (tName 4) (sSetF 3 (dOp oAdd (pe (pVar 3)) (dFz (dLc [5] (iR1 (aCons (pe (pVar 0)) (aNil))) (tName 5) (bYes) (nOp oAdd (pVar 4) (pLst (paCons (pVar 5) (paNil)))))))))
      (sSetF 1 (pe (pVar 3))))))
      (sRet (pe (pVar 1))))

theorem d_law_all_rows {P : Program} {w : World} {K : PySem.W.Frag} {mg : Str → Option Value} {base : Heap} {k : Nat} {f : Addr} {cdv : Value} {A : Around} {outer : List Env} {s : Shared} {H : Hp} {E : XK} (B : Blt mg) (hgd : A.guards = some [])
    (hr : Room k (fX P w K mg base N_law_all_rows "_law_all_rows" (defScope s_law_all_rows) f cdv A outer s H E).A) :
    DB (fX P w K mg base N_law_all_rows "_law_all_rows" (defScope s_law_all_rows) f cdv A outer s H E) (fW E) (defBody s_law_all_rows) (b_law_all_rows) := by
  have S := S_law_all_rows
  exact db_cons (ds_setF (i := 1) S.nd rfl (by first | exact Or.inl rfl | exact Or.inr rfl) (de_lst (da_cons (de_lst (da_nil)) (da_nil))))
      (db_cons (ds_for own_f rfl (di_range1 rfl (B.g "range") (da_cons (de_opP od_sub (dp_var (i := 0)) (dp_int)) (da_nil))) (dg_name (i := 2) S.nd rfl (by first | exact Or.inl rfl | exact Or.inr rfl)) (db_cons (ds_setF (i := 3) S.nd rfl (by first | exact Or.inl rfl | exact Or.inr rfl) (de_lst (da_nil)))
      (db_cons (ds_for own_f rfl (di_seq (de_p (dp_var (i := 1)))) (dg_name (i := 4) S.nd rfl (by first | exact Or.inl rfl | exact Or.inr rfl)) (db_one (ds_setF (i := 3) S.nd rfl (by first | exact Or.inl rfl | exact Or.inr rfl) (de_op od_add (de_p (dp_var (i := 3))) (de_fz (de_lc (own := [("house", 5)]) rfl S.nd (di_range1 rfl (B.g "range") (da_cons (de_p (dp_var (i := 0))) (da_nil))) (blkOk_by (own := [("house", 5)]) (by rfl)) (by decide) (fun z => dg_name (i := 5) S.nd rfl (by first | exact Or.inl rfl | exact Or.inr rfl)) (fun z => dts_nil) (fun z => de_opP od_add (dp_var (i := 4)) (dp_lst (dpa_cons (dp_var (i := 5)) (dpa_nil))))))))))
      (db_one (ds_setF (i := 1) S.nd rfl (by first | exact Or.inl rfl | exact Or.inr rfl) (de_p (dp_var (i := 3))))))))
      (db_one (ds_ret (de_p (dp_var (i := 1))))))

abbrev s_law_asked : Stmt := top 32
abbrev N_law_asked : List Str := ["houses", "row", "e"]
abbrev p_law_asked : List Str := ["houses", "row"]

theorem S_law_asked : FnScope N_law_asked p_law_asked (defScope s_law_asked) := ⟨rfl, rfl, rfl, by decide +kernel, rfl, by decide +kernel, by decide +kernel⟩

def b_law_asked (sp_tree_of_row : DSp) : SF :=
  sTry EXC (sRet (dLst (aCons (pe (pC (.str ("told" : Str)))) (aCons (dFn sp_tree_of_row (aCons (pe (pVar 0)) (aCons (pe (pVar 1)) (aNil)))) (aNil))))) [("InvalidHouses", some 2, fun z => sRet (dLst (aCons (pe (pC (.str ("houses" : Str)))) (aCons (dXf z 2 "given") (aNil))))), ("InvalidRow", some 2, fun z => sRet (dLst (aCons (pe (pC (.str ("row" : Str)))) (aCons (dXf z 2 "given") (aNil))))), ("LostError", none, fun z => sRet (dLst (aCons (pe (pC (.str ("other" : Str)))) (aCons (pe (pC .non)) (aNil)))))]

theorem d_law_asked {P : Program} {w : World} {K : PySem.W.Frag} {mg : Str → Option Value} {base : Heap} {k : Nat} {f : Addr} {cdv : Value} {A : Around} {outer : List Env} {s : Shared} {H : Hp} {E : XK} {sp_tree_of_row : DSp} (B : Blt mg) (hgd : A.guards = some [])
    (hr : Room k (fX P w K mg base N_law_asked "_law_asked" (defScope s_law_asked) f cdv A outer s H E).A) (F_tree_of_row : FnD P w K mg base k "tree_of_row" 2 sp_tree_of_row) (XS : Exs K mg EXC EXF) :
    DB (fX P w K mg base N_law_asked "_law_asked" (defScope s_law_asked) f cdv A outer s H E) (fW E) (defBody s_law_asked) (b_law_asked sp_tree_of_row) := by
  have S := S_law_asked
  exact db_one (ds_try (cs := EXC) (fl := EXF) rfl rfl S.nd takes_f XS (fun W1 pn1 xe1 h1 h2 => db_one (ds_ret (de_lst (da_cons (de_p (dp_str)) (da_cons (de_fn F_tree_of_row hgd hr (by rfl) (pss_takes h1) (da_cons (de_p (dp_var (i := 0))) (da_cons (de_p (dp_var (i := 1))) (da_nil)))) (da_nil)))))) (DHs.cons (o := some (2, "e")) rfl (by decide) (by decide) (by intro p e; cases e; exact ⟨rfl, rfl⟩) (fun a dd C c oe pn hcs hmc hz hof => db_one (ds_ret (de_lst (da_cons (de_p (dp_str)) (da_cons (de_xf (i := 2) XS hcs hmc (by decide) hz hof) (da_nil)))))) (DHs.cons (o := some (2, "e")) rfl (by decide) (by decide) (by intro p e; cases e; exact ⟨rfl, rfl⟩) (fun a dd C c oe pn hcs hmc hz hof => db_one (ds_ret (de_lst (da_cons (de_p (dp_str)) (da_cons (de_xf (i := 2) XS hcs hmc (by decide) hz hof) (da_nil)))))) (DHs.cons (o := none) rfl (by decide) (by decide) (by intro p e; cases e) (fun a dd C c oe pn hcs hmc hz hof => db_one (ds_ret (de_lst (da_cons (de_p (dp_str)) (da_cons (de_p (dp_non)) (da_nil)))))) (DHs.nil)))))

abbrev s_law_refused_right : Stmt := top 33
abbrev N_law_refused_right : List Str := ["box", "houses", "row", "bad", "odd", "wrong", "found"]
abbrev p_law_refused_right : List Str := ["box", "houses", "row"]

theorem S_law_refused_right : FnScope N_law_refused_right p_law_refused_right (defScope s_law_refused_right) := ⟨rfl, rfl, rfl, by decide +kernel, rfl, by decide +kernel, by decide +kernel⟩

def b_law_refused_right (sp_law_take sp_law_asked sp_law_very : DSp) : SF :=
  sSeq (sSetF 3 (dIx (dLst (aCons (pe (pC (.int 1))) (aCons (pe (pC (.int 0))) (aCons (pe (pC (.int 65))) (aCons (pe (pC (.bl true))) (aCons (pe (pC .non)) (aCons (pe (pC (.str ("4" : Str)))) (aCons (dLst (aCons (pe (pC (.int 4))) (aNil))) (aCons (pe (pUn uNeg (pC (.int 2)))) (aNil)))))))))) (dFn sp_law_take (aCons (pe (pVar 0)) (aCons (pe (pC (.int 8))) (aNil))))))
      (sSeq (sSetF 4 (dLst (aCons (pe (pC .non)) (aCons (pe (pC (.int 7))) (aCons (dK0) (aCons (nOp oAdd (pVar 2) (pLst (paCons (pC (.int 0)) (paNil)))) (aCons (dIf (bV (pe (pOp oNe (pVar 2) (pLst (paNil))))) (nSl (pVar 2) (oSo (pC (.int 1))) (oNo)) (pe (pC .non))) (aCons (nOp oMulX (pC (.str ("0" : Str))) (pCall cLen (paCons (pVar 2) (paNil)))) (aCons (nOp oAdd (pSl (pVar 2) (oNo) (oSo (pUn uNeg (pC (.int 1))))) (pLst (paCons (pVar 1) (paNil)))) (aCons (nOp oAdd (pSl (pVar 2) (oNo) (oSo (pUn uNeg (pC (.int 1))))) (pLst (paCons (pUn uNeg (pC (.int 1))) (paNil)))) (aCons (nOp oAdd (pSl (pVar 2) (oNo) (oSo (pUn uNeg (pC (.int 1))))) (pLst (paCons (pC (.bl true)) (paNil)))) (aCons (nOp oAdd (pSl (pVar 2) (oNo) (oSo (pUn uNeg (pC (.int 1))))) (pLst (paCons (pC (.str ("0" : Str))) (paNil)))) (aNil)))))))))))))
      (sSeq (sSetF 5 (dIx (pe (pVar 4)) (dFn sp_law_take (aCons (pe (pVar 0)) (aCons (dIf (bV (pe (pOp oNe (pVar 2) (pLst (paNil))))) (pe (pC (.int 10))) (pe (pC (.int 6)))) (aNil))))))
      (sSeq (sIf (bV (pe (pOp oEqX (pVar 5) (pC (.str ("" : Str)))))) (sSetF 5 (pe (pC .non))) (sNil))
      (sTag 5 (sSeq (sSetF 6 (dLst (aCons (dFn sp_law_asked (aCons (pe (pVar 3)) (aCons (pe (pVar 5)) (aNil)))) (aCons (dFn sp_law_asked (aCons (pe (pVar 1)) (aCons (pe (pVar 5)) (aNil)))) (aNil)))))
      (sSeq (sIf (bOr (bV (pe (pOp oNe (pIx (pIx (pVar 6) (pC (.int 0))) (pC (.int 0))) (pC (.str ("houses" : Str)))))) (bOr (bV (pe (pOp oNe (pCall cRepr (paCons (pIx (pIx (pVar 6) (pC (.int 0))) (pC (.int 1))) (paNil))) (pCall cRepr (paCons (pVar 3) (paNil)))))) (bV (pe (pOp oNe (pIx (pIx (pVar 6) (pC (.int 1))) (pC (.int 0))) (pC (.str ("row" : Str)))))))) (sRet (pe (pC (.bl false)))) (sNil))
      (sRet (dFnT sp_law_very (paCons (pIx (pIx (pVar 6) (pC (.int 1))) (pC (.int 1))) (paCons (pVar 5) (paNil)))))))))))

theorem d_law_refused_right {P : Program} {w : World} {K : PySem.W.Frag} {mg : Str → Option Value} {base : Heap} {k : Nat} {f : Addr} {cdv : Value} {A : Around} {outer : List Env} {s : Shared} {H : Hp} {E : XK} {sp_law_take sp_law_asked sp_law_very : DSp} (B : Blt mg) (hgd : A.guards = some [])
    (hr : Room k (fX P w K mg base N_law_refused_right "_law_refused_right" (defScope s_law_refused_right) f cdv A outer s H E).A) (F_law_take : FnD P w K mg base k "_law_take" 2 sp_law_take) (F_law_asked : FnD P w K mg base k "_law_asked" 2 sp_law_asked) (F_law_very : FnD P w K mg base k "_law_very" 2 sp_law_very) :
    DB (fX P w K mg base N_law_refused_right "_law_refused_right" (defScope s_law_refused_right) f cdv A outer s H E) (fW E) (defBody s_law_refused_right) (b_law_refused_right sp_law_take sp_law_asked sp_law_very) := by
  have S := S_law_refused_right
  exact db_cons (ds_setF (i := 3) S.nd rfl (by first | exact Or.inl rfl | exact Or.inr rfl) (de_ix (ru hr) (de_lst (da_cons (de_p (dp_int)) (da_cons (de_p (dp_int)) (da_cons (de_p (dp_int)) (da_cons (de_p (dp_bl)) (da_cons (de_p (dp_non)) (da_cons (de_p (dp_str)) (da_cons (de_lst (da_cons (de_p (dp_int)) (da_nil))) (da_cons (de_p (dp_un ud_neg (dp_int))) (da_nil)))))))))) (de_fn F_law_take hgd hr (by rfl) (pss_takes takes_f) (da_cons (de_p (dp_var (i := 0))) (da_cons (de_p (dp_int)) (da_nil))))))
      (db_cons (ds_setF (i := 4) S.nd rfl (by first | exact Or.inl rfl | exact Or.inr rfl) (de_lst (da_cons (de_p (dp_non)) (da_cons (de_p (dp_int)) (da_cons (de_K0) (da_cons (de_opP od_add (dp_var (i := 2)) (dp_lst (dpa_cons (dp_int) (dpa_nil)))) (da_cons (de_ifExp (dt_cmpP (od_ne (ru hr)) (dp_var (i := 2)) (dp_lst (dpa_nil)) (nomark _)) (de_sliceP (dp_var (i := 2)) (do_some (dp_int)) (do_none)) (de_p (dp_non))) (da_cons (de_opP od_mulX (dp_str) (dp_callB cd_len (dpa_cons (dp_var (i := 2)) (dpa_nil)) rfl (B.g "len") boot_len)) (da_cons (de_opP od_add (dp_slice (dp_var (i := 2)) (do_none) (do_some (dp_un ud_neg (dp_int)))) (dp_lst (dpa_cons (dp_var (i := 1)) (dpa_nil)))) (da_cons (de_opP od_add (dp_slice (dp_var (i := 2)) (do_none) (do_some (dp_un ud_neg (dp_int)))) (dp_lst (dpa_cons (dp_un ud_neg (dp_int)) (dpa_nil)))) (da_cons (de_opP od_add (dp_slice (dp_var (i := 2)) (do_none) (do_some (dp_un ud_neg (dp_int)))) (dp_lst (dpa_cons (dp_bl) (dpa_nil)))) (da_cons (de_opP od_add (dp_slice (dp_var (i := 2)) (do_none) (do_some (dp_un ud_neg (dp_int)))) (dp_lst (dpa_cons (dp_str) (dpa_nil)))) (da_nil)))))))))))))
      (db_cons (ds_setF (i := 5) S.nd rfl (by first | exact Or.inl rfl | exact Or.inr rfl) (de_ix (ru hr) (de_p (dp_var (i := 4))) (de_fn F_law_take hgd hr (by rfl) (pss_takes takes_f) (da_cons (de_p (dp_var (i := 0))) (da_cons (de_ifExp (dt_cmpP (od_ne (ru hr)) (dp_var (i := 2)) (dp_lst (dpa_nil)) (nomark _)) (de_p (dp_int)) (de_p (dp_int))) (da_nil))))))
      (db_cons (ds_if (dt_cmpP (od_eqX (ru hr)) (dp_var (i := 5)) (dp_str) (nomark _)) (db_one (ds_setF (i := 5) S.nd rfl (by first | exact Or.inl rfl | exact Or.inr rfl) (de_p (dp_non)))) (db_nil))
      (db_tag 5 (db_cons (ds_setF (i := 6) S.nd rfl (by first | exact Or.inl rfl | exact Or.inr rfl) (de_lst (da_cons (de_fn F_law_asked hgd hr (by rfl) (pss_takes takes_f) (da_cons (de_p (dp_var (i := 3))) (da_cons (de_p (dp_var (i := 5))) (da_nil)))) (da_cons (de_fn F_law_asked hgd hr (by rfl) (pss_takes takes_f) (da_cons (de_p (dp_var (i := 1))) (da_cons (de_p (dp_var (i := 5))) (da_nil)))) (da_nil)))))
      (db_cons (ds_if (DW.dt (dw_or (dt_cmpP (od_ne (ru hr)) (dp_ix (ru hr) (dp_ix (ru hr) (dp_var (i := 6)) (dp_int)) (dp_int)) (dp_str) (nomark _)) (dw_or (dt_cmpP (od_ne (ru hr)) (dp_callB (cd_repr hgd (ru hr)) (dpa_cons (dp_ix (ru hr) (dp_ix (ru hr) (dp_var (i := 6)) (dp_int)) (dp_int)) (dpa_nil)) rfl (B.g "repr") boot_repr) (dp_callB (cd_repr hgd (ru hr)) (dpa_cons (dp_var (i := 3)) (dpa_nil)) rfl (B.g "repr") boot_repr) (nomark _)) (dw_or1 (dt_cmpP (od_ne (ru hr)) (dp_ix (ru hr) (dp_ix (ru hr) (dp_var (i := 6)) (dp_int)) (dp_int)) (dp_str) (nomark _)))))) (db_one (ds_ret (de_p (dp_bl)))) (db_nil))
      (db_one (ds_ret (de_fnT F_law_very hgd hr (by rfl) (pss_takes takes_f) (dpa_cons (dp_ix (ru hr) (dp_ix (ru hr) (dp_var (i := 6)) (dp_int)) (dp_int)) (dpa_cons (dp_var (i := 5)) (dpa_nil))))))))))))

abbrev s_law : Stmt := top 34
abbrev N_law : List Str := ["script", "houses", "rows", "lines", "k", "box", "most", "roads", "found", "e", "tree", "near", "row", "drawn", "kept", "made", "house", "one", "turn"]
abbrev p_law : List Str := ["script"]

theorem S_law : FnScope N_law p_law (defScope s_law) := ⟨rfl, rfl, rfl, by decide +kernel, rfl, by decide +kernel, by decide +kernel⟩

def b_law (sp_law_all_rows sp_tree_of_row sp_law_box sp_law_cell sp_law_roads sp_row_of sp_law_is sp_law_near sp_law_row sp_law_take sp_law_refused_right mk_Tree sp_eq_Tree sp_Tree_line : DSp) : SF :=
  sSeq (sFor (iR2 (aCons (pe (pC (.int 2))) (aCons (pe (pC (.int 6))) (aNil)))) (tName 1) (sSeq (sSetF 2 (dFn sp_law_all_rows (aCons (pe (pVar 1)) (aNil))))
      (sSeq (sSetX true 3 (dLc [12] (iSeq (pe (pVar 2))) (tName 12) (bYes) (dMeth0 "Tree" "line" sp_Tree_line (dFn sp_tree_of_row (aCons (pe (pVar 1)) (aCons (pe (pVar 12)) (aNil)))))))
      (sIf (bV (dOp oNe (dLenSet (pe (pVar 3))) (nCall cLen (paCons (pVar 2) (paNil))))) (sRet (pe (pC (.bl false)))) (sNil)))))
      (sSeq (sFor (iR1 (aCons (nCall cMax2 (paCons (pC (.int 2)) (paCons (pCall cMin2 (paCons (pC (.int 6)) (paCons (pCall cLen (paCons (pVar 0) (paNil))) (paNil)))) (paNil)))) (aNil))) (tName 4) (sSeq (sSetSh false 5 (dFn sp_law_box (aCons (dFn sp_law_cell (aCons (pe (pVar 0)) (aCons (pe (pVar 4)) (aNil)))) (aNil))))
      (sFor (iSeq (dTup (aCons (pe (pC (.int 8))) (aCons (pe (pC (.int 64))) (aNil))))) (tName 6) (sSeq (sAsg (dFn sp_law_roads (aCons (pe (pVar 5)) (aCons (pe (pVar 6)) (aNil)))) (tLstT 2 (tsCons (tNameF 1) (tsCons (tNameF 7) (tsNil)))))
      (sSeq (sIf (bV (pe (pOp oEq (pVar 1) (pC (.int 1))))) (sSeq (sSetF 8 (pe (pC .non)))
      (sSeq (sTry EXC (sExpr (dFn sp_row_of (aCons (dMake "Tree" mk_Tree (aCons (pe (pC (.int 1))) (aCons (dLst (aNil)) (aNil)))) (aNil)))) [("InvalidHouses", some 9, fun z => sSetF 8 (dXf z 9 "given"))])
      (sSeq (sIf (bNot (bV (dFnB sp_law_is (paCons (pVar 8) (paCons (pC (.int 1)) (paNil)))))) (sRet (pe (pC (.bl false)))) (sNil))
      (sCont)))) (sNil))
      (sSeq (sAsg (dTup (aCons (dMake "Tree" mk_Tree (aCons (pe (pVar 1)) (aCons (pe (pVar 7)) (aNil)))) (aCons (dFn sp_law_near (aCons (pe (pVar 1)) (aCons (pe (pVar 7)) (aNil)))) (aNil)))) (tTupT 2 (tsCons (tNameF 10) (tsCons (tNameF 11) (tsNil)))))
      (sSeq (sSetF 12 (dFn sp_row_of (aCons (pe (pVar 10)) (aNil))))
      (sSeq (sIf (bOr (bNot (bV (dFn sp_law_is (aCons (pe (pVar 12)) (aCons (dFn sp_law_row (aCons (pe (pVar 1)) (aCons (pe (pVar 7)) (aNil)))) (aNil)))))) (bNot (bV (dEqE "Tree" sp_eq_Tree (dFn sp_tree_of_row (aCons (pe (pVar 1)) (aCons (nCall cTuple (paCons (pVar 12) (paNil))) (aNil)))) (pVar 10))))) (sRet (pe (pC (.bl false)))) (sNil))
      (sSeq (sIf (bV (dOp oNe (dLc [16] (iR1 (aCons (pe (pVar 1)) (aNil))) (tName 16) (bV (dOp oNe (dCall cLen (aCons (dLc [17] (iSeq (pe (pVar 12))) (tName 17) (bV (pe (pOp oEq (pVar 17) (pVar 16)))) (pe (pVar 17))) (aNil))) (nOp oSub (pCall cLen (paCons (pIx (pVar 11) (pVar 16)) (paNil))) (pC (.int 1))))) (pe (pVar 16))) (dLst (aNil)))) (sRet (pe (pC (.bl false)))) (sNil))
      (sSeq (sSetX true 13 (dLc [18] (iR1 (aCons (nOp oSub (pVar 1) (pC (.int 2))) (aNil))) (tName 18) (bYes) (dFn sp_law_take (aCons (pe (pVar 5)) (aCons (pe (pVar 1)) (aNil))))))
      (sSeq (sSetF 14 (nCall cRepr (paCons (pVar 13) (paNil))))
      (sSeq (sSetF 15 (dFn sp_tree_of_row (aCons (pe (pVar 1)) (aCons (pe (pVar 13)) (aNil)))))
      (sSeq (sIf (bOr (bV (pe (pOp oNe (pFld "Tree" "houses" (pVar 15)) (pVar 1)))) (bOr (bNot (bV (dFn sp_law_is (aCons (dFn sp_row_of (aCons (pe (pVar 15)) (aNil))) (aCons (pe (pVar 13)) (aNil)))))) (bOr (bNot (bV (dFn sp_law_is (aCons (dFn sp_law_row (aCons (pe (pVar 1)) (aCons (nCall cList (paCons (pFld "Tree" "roads" (pVar 15)) (paNil))) (aNil)))) (aCons (pe (pVar 13)) (aNil)))))) (bV (pe (pOp oNe (pCall cRepr (paCons (pVar 13) (paNil))) (pVar 14))))))) (sRet (pe (pC (.bl false)))) (sNil))
      (sIf (bNot (bV (dFn sp_law_refused_right (aCons (pe (pVar 5)) (aCons (pe (pVar 1)) (aCons (pe (pVar 13)) (aNil))))))) (sRet (pe (pC (.bl false)))) (sNil)))))))))))))))
      (sRet (pe (pC (.bl true)))))

theorem d_law {P : Program} {w : World} {K : PySem.W.Frag} {mg : Str → Option Value} {base : Heap} {k : Nat} {f : Addr} {cdv : Value} {A : Around} {outer : List Env} {s : Shared} {H : Hp} {E : XK} {sp_law_all_rows sp_tree_of_row sp_law_box sp_law_cell sp_law_roads sp_row_of sp_law_is sp_law_near sp_law_row sp_law_take sp_law_refused_right mk_Tree sp_eq_Tree sp_Tree_line : DSp} {k0 : Nat} (B : Blt mg) (hgd : A.guards = some [])
    (hr : Room k (fX P w K mg base N_law "law" (defScope s_law) f cdv A outer s H E).A) (hk1 : k0 + 1 ≤ k) (M_Tree : MkD P w K mg base k0 "Tree" 2 mk_Tree) (F_law_all_rows : FnD P w K mg base k "_law_all_rows" 1 sp_law_all_rows) (F_tree_of_row : FnD P w K mg base k "tree_of_row" 2 sp_tree_of_row) (F_law_box : FnD P w K mg base k "_law_box" 1 sp_law_box) (F_law_cell : FnD P w K mg base k "_law_cell" 2 sp_law_cell) (F_law_roads : FnD P w K mg base k "_law_roads" 2 sp_law_roads) (F_row_of : FnD P w K mg base k "row_of" 1 sp_row_of) (F_law_is : FnD P w K mg base k "_law_is" 2 sp_law_is) (F_law_near : FnD P w K mg base k "_law_near" 2 sp_law_near) (F_law_row : FnD P w K mg base k "_law_row" 2 sp_law_row) (F_law_take : FnD P w K mg base k "_law_take" 2 sp_law_take) (F_law_refused_right : FnD P w K mg base k "_law_refused_right" 3 sp_law_refused_right) (C_Tree : ClD P w K mg base "Tree" ["houses", "roads", "near", "ways"]) (Q_Tree : EqC P w K mg base k "Tree" sp_eq_Tree) (L_Tree_line : MthD P w K mg base k "Tree" "line" 0 sp_Tree_line) (XS : Exs K mg EXC EXF) :
    DB (fX P w K mg base N_law "law" (defScope s_law) f cdv A outer s H E) (fW E) (defBody s_law) (b_law sp_law_all_rows sp_tree_of_row sp_law_box sp_law_cell sp_law_roads sp_row_of sp_law_is sp_law_near sp_law_row sp_law_take sp_law_refused_right mk_Tree sp_eq_Tree sp_Tree_line) := by
  have S := S_law
  exact db_cons (ds_for own_f rfl (di_range2 rfl (B.g "range") (da_cons (de_p (dp_int)) (da_cons (de_p (dp_int)) (da_nil)))) (dg_name (i := 1) S.nd rfl (by first | exact Or.inl rfl | exact Or.inr rfl)) (db_cons (ds_setF (i := 2) S.nd rfl (by first | exact Or.inl rfl | exact Or.inr rfl) (de_fn F_law_all_rows hgd hr (by rfl) (pss_takes takes_f) (da_cons (de_p (dp_var (i := 1))) (da_nil))))
      (db_cons (ds_setLc (frz := true) (own := [("row", 12)]) (i := 3) rfl S.nd rfl rfl (sw_true rfl rfl rfl (by decide +kernel)) (di_seq (de_p (dp_var (i := 2)))) (blkOk_by (own := [("row", 12)]) (by rfl)) (by decide) (fun z => dg_name (i := 12) S.nd rfl (by first | exact Or.inl rfl | exact Or.inr rfl)) (fun z => dts_nil) (fun z => de_meth0 L_Tree_line hgd hr pss_no (de_fn F_tree_of_row hgd hr (by rfl) pss_no (da_cons (de_p (dp_var (i := 1))) (da_cons (de_p (dp_var (i := 12))) (da_nil))))))
      (db_one (ds_if (dt_cmp (od_ne (ru hr)) (de_lenSetE rfl (de_p (dp_var (i := 3))) rfl (B.g "len") rfl (B.g "set")) (de_callBP cd_len (dpa_cons (dp_var (i := 2)) (dpa_nil)) rfl (B.g "len") boot_len) (nomark _)) (db_one (ds_ret (de_p (dp_bl)))) (db_nil))))))
      (db_cons (ds_for own_f rfl (di_range1 rfl (B.g "range") (da_cons (de_callBP (cd_max2 rfl) (dpa_cons (dp_int) (dpa_cons (dp_callB (cd_min2 rfl) (dpa_cons (dp_int) (dpa_cons (dp_callB cd_len (dpa_cons (dp_var (i := 0)) (dpa_nil)) rfl (B.g "len") boot_len) (dpa_nil))) rfl (B.g "min") boot_min) (dpa_nil))) rfl (B.g "max") boot_max) (da_nil))) (dg_name (i := 4) S.nd rfl (by first | exact Or.inl rfl | exact Or.inr rfl)) (db_cons (ds_setSh (keep := false) (i := 5) S.nd rfl (by first | exact Or.inl rfl | exact Or.inr rfl) (de_fn F_law_box hgd hr (by rfl) (pss_takes takes_f) (da_cons (de_fn F_law_cell hgd hr (by rfl) (pss_takes takes_f) (da_cons (de_p (dp_var (i := 0))) (da_cons (de_p (dp_var (i := 4))) (da_nil)))) (da_nil))))
      (db_one (ds_for own_f rfl (di_seq (de_tup (da_cons (de_p (dp_int)) (da_cons (de_p (dp_int)) (da_nil))))) (dg_name (i := 6) S.nd rfl (by first | exact Or.inl rfl | exact Or.inr rfl)) (db_cons (ds_asg (de_fn F_law_roads hgd hr (by rfl) (pss_takes takes_f) (da_cons (de_p (dp_var (i := 5))) (da_cons (de_p (dp_var (i := 6))) (da_nil)))) (dg_lst rfl (dgs_cons (dg_nameF (i := 1) S.nd rfl (by first | exact Or.inl rfl | exact Or.inr rfl)) (dgs_cons (dg_nameF (i := 7) S.nd rfl (by first | exact Or.inl rfl | exact Or.inr rfl)) (dgs_nil)))))
      (db_cons (ds_if (dt_cmpP (od_eq (ru hr)) (dp_var (i := 1)) (dp_int) (nomark _)) (db_cons (ds_setF (i := 8) S.nd rfl (by first | exact Or.inl rfl | exact Or.inr rfl) (de_p (dp_non)))
      (db_cons (ds_try (cs := EXC) (fl := EXF) rfl rfl S.nd takes_f XS (fun W1 pn1 xe1 h1 h2 => db_one (ds_expr (de_fn F_row_of hgd hr (by rfl) (pss_takes h1) (da_cons (de_make M_Tree hgd (hr.mono hk1) (by rfl) (pss_takes h1) (da_cons (de_p (dp_int)) (da_cons (de_lst (da_nil)) (da_nil)))) (da_nil))))) (DHs.cons (o := some (9, "e")) rfl (by decide) (by decide) (by intro p e; cases e; exact ⟨rfl, rfl⟩) (fun a dd C c oe pn hcs hmc hz hof => db_one (ds_setF (i := 8) S.nd rfl (by first | exact Or.inl rfl | exact Or.inr rfl) (de_xf (i := 9) XS hcs hmc (by decide) hz hof))) (DHs.nil)))
      (db_cons (ds_if (dt_not (dt_val (de_fnB F_law_is hgd hr (by rfl) (pss_takes takes_f) (dpa_cons (dp_var (i := 8)) (dpa_cons (dp_int) (dpa_nil)))))) (db_one (ds_ret (de_p (dp_bl)))) (db_nil))
      (db_one (ds_continue))))) (db_nil))
      (db_cons (ds_asg (de_tup (da_cons (de_make M_Tree hgd (hr.mono hk1) (by rfl) (pss_takes takes_f) (da_cons (de_p (dp_var (i := 1))) (da_cons (de_p (dp_var (i := 7))) (da_nil)))) (da_cons (de_fn F_law_near hgd hr (by rfl) (pss_takes takes_f) (da_cons (de_p (dp_var (i := 1))) (da_cons (de_p (dp_var (i := 7))) (da_nil)))) (da_nil)))) (dg_tup rfl (dgs_cons (dg_nameF (i := 10) S.nd rfl (by first | exact Or.inl rfl | exact Or.inr rfl)) (dgs_cons (dg_nameF (i := 11) S.nd rfl (by first | exact Or.inl rfl | exact Or.inr rfl)) (dgs_nil)))))
      (db_cons (ds_setF (i := 12) S.nd rfl (by first | exact Or.inl rfl | exact Or.inr rfl) (de_fn F_row_of hgd hr (by rfl) (pss_takes takes_f) (da_cons (de_p (dp_var (i := 10))) (da_nil))))
      (db_cons (ds_if (DW.dt (dw_or (dt_not (dt_val (de_fn F_law_is hgd hr (by rfl) (pss_takes takes_f) (da_cons (de_p (dp_var (i := 12))) (da_cons (de_fn F_law_row hgd hr (by rfl) (pss_takes takes_f) (da_cons (de_p (dp_var (i := 1))) (da_cons (de_p (dp_var (i := 7))) (da_nil)))) (da_nil)))))) (dw_or1 (dt_not (dt_eqE Q_Tree hgd hr (de_fn F_tree_of_row hgd hr (by rfl) (pss_takes takes_f) (da_cons (de_p (dp_var (i := 1))) (da_cons (de_callTyP cd_tuple (dpa_cons (dp_var (i := 12)) (dpa_nil)) rfl (B.g "tuple") boot_tuple) (da_nil)))) (dp_var (i := 10))))))) (db_one (ds_ret (de_p (dp_bl)))) (db_nil))
      (db_cons (ds_if (dt_cmp (od_ne (ru hr)) (de_lc (own := [("house", 16)]) rfl S.nd (di_range1 rfl (B.g "range") (da_cons (de_p (dp_var (i := 1))) (da_nil))) (blkOk_by (own := [("house", 16)]) (by rfl)) (by decide) (fun z => dg_name (i := 16) S.nd rfl (by first | exact Or.inl rfl | exact Or.inr rfl)) (fun z => dts_one (dt_cmp (od_ne (ru hr)) (de_callB cd_len (da_cons (de_lc (own := [("one", 17)]) rfl S.nd (di_seq (de_p (dp_var (i := 12)))) (blkOk_by (own := [("one", 17)]) (by rfl)) (by decide) (fun z => dg_name (i := 17) S.nd rfl (by first | exact Or.inl rfl | exact Or.inr rfl)) (fun z => dts_one (dt_cmpP (od_eq (ru hr)) (dp_var (i := 17)) (dp_var (i := 16)) (nomark _))) (fun z => de_p (dp_var (i := 17)))) (da_nil)) rfl (B.g "len") boot_len) (de_opP od_sub (dp_callB cd_len (dpa_cons (dp_ix (ru hr) (dp_var (i := 11)) (dp_var (i := 16))) (dpa_nil)) rfl (B.g "len") boot_len) (dp_int)) (nomark _))) (fun z => de_p (dp_var (i := 16)))) (de_lst (da_nil)) (nomark _)) (db_one (ds_ret (de_p (dp_bl)))) (db_nil))
      (db_cons (ds_setLc (frz := true) (own := [("turn", 18)]) (i := 13) rfl S.nd rfl rfl (sw_true rfl rfl rfl (by decide +kernel)) (di_range1 rfl (B.g "range") (da_cons (de_opP od_sub (dp_var (i := 1)) (dp_int)) (da_nil))) (blkOk_by (own := [("turn", 18)]) (by rfl)) (by decide) (fun z => dg_name (i := 18) S.nd rfl (by first | exact Or.inl rfl | exact Or.inr rfl)) (fun z => dts_nil) (fun z => de_fn F_law_take hgd hr (by rfl) pss_no (da_cons (de_p (dp_var (i := 5))) (da_cons (de_p (dp_var (i := 1))) (da_nil)))))
      (db_cons (ds_setF (i := 14) S.nd rfl (by first | exact Or.inl rfl | exact Or.inr rfl) (de_callBP (cd_repr hgd (ru hr)) (dpa_cons (dp_var (i := 13)) (dpa_nil)) rfl (B.g "repr") boot_repr))
      (db_cons (ds_setF (i := 15) S.nd rfl (by first | exact Or.inl rfl | exact Or.inr rfl) (de_fn F_tree_of_row hgd hr (by rfl) (pss_takes takes_f) (da_cons (de_p (dp_var (i := 1))) (da_cons (de_p (dp_var (i := 13))) (da_nil)))))
      (db_cons (ds_if (DW.dt (dw_or (dt_cmpP (od_ne (ru hr)) (dp_fld C_Tree (by decide) (dp_var (i := 15))) (dp_var (i := 1)) (nomark _)) (dw_or (dt_not (dt_val (de_fn F_law_is hgd hr (by rfl) (pss_takes takes_f) (da_cons (de_fn F_row_of hgd hr (by rfl) (pss_takes takes_f) (da_cons (de_p (dp_var (i := 15))) (da_nil))) (da_cons (de_p (dp_var (i := 13))) (da_nil)))))) (dw_or (dt_not (dt_val (de_fn F_law_is hgd hr (by rfl) (pss_takes takes_f) (da_cons (de_fn F_law_row hgd hr (by rfl) (pss_takes takes_f) (da_cons (de_p (dp_var (i := 1))) (da_cons (de_callTyP cd_list (dpa_cons (dp_fld C_Tree (by decide) (dp_var (i := 15))) (dpa_nil)) rfl (B.g "list") boot_list) (da_nil)))) (da_cons (de_p (dp_var (i := 13))) (da_nil)))))) (dw_or1 (dt_cmpP (od_ne (ru hr)) (dp_callB (cd_repr hgd (ru hr)) (dpa_cons (dp_var (i := 13)) (dpa_nil)) rfl (B.g "repr") boot_repr) (dp_var (i := 14)) (nomark _))))))) (db_one (ds_ret (de_p (dp_bl)))) (db_nil))
      (db_one (ds_if (dt_not (dt_val (de_fn F_law_refused_right hgd hr (by rfl) (pss_takes takes_f) (da_cons (de_p (dp_var (i := 5))) (da_cons (de_p (dp_var (i := 1))) (da_cons (de_p (dp_var (i := 13))) (da_nil))))))) (db_one (ds_ret (de_p (dp_bl)))) (db_nil)))))))))))))))))
      (db_one (ds_ret (de_p (dp_bl)))))

abbrev s_Tree_init : Stmt := meth 17 0
abbrev N_Tree_init : List Str := ["self", "houses", "roads", "house"]
abbrev p_Tree_init : List Str := ["self", "houses", "roads"]

theorem S_Tree_init : FnScope N_Tree_init p_Tree_init (defScope s_Tree_init) := ⟨rfl, rfl, rfl, by decide +kernel, rfl, by decide +kernel, by decide +kernel⟩

def b_Tree_init (sp_is_integer sp_are_roads sp_joined_by sp_ways_from : DSp) : SF :=
  sFz 2 (sSeq (sIf (bOr (bNot (bV (dFnB sp_is_integer (paCons (pVar 1) (paNil))))) (bNot (bCh oLe oLe (pC (.int 1)) (pVar 1) (pC (.int 64))))) (sRaise "InvalidHouses" ["given"] (aCons (pe (pVar 1)) (aNil))) (sNil))
      (sSeq (sIf (bNot (bV (dFn sp_are_roads (aCons (pe (pVar 2)) (aCons (pe (pVar 1)) (aNil)))))) (sRaise "InvalidRoads" ["given"] (aCons (pe (pVar 2)) (aNil))) (sNil))
      (sSeq (sFldS "Tree" "houses" (qPtr 0) (pe (pVar 1)))
      (sSeq (sFldS "Tree" "roads" (qPtr 0) (nCall cTuple (paCons (pVar 2) (paNil))))
      (sSeq (sFldS "Tree" "near" (qPtr 0) (dFn sp_joined_by (aCons (pe (pVar 1)) (aCons (pe (pVar 2)) (aNil)))))
      (sSeq (sFldS "Tree" "ways" (qPtr 0) (dCall cTuple (aCons (dLc [3] (iR1 (aCons (pe (pVar 1)) (aNil))) (tName 3) (bYes) (dFn sp_ways_from (aCons (pe (pFld "Tree" "near" (pPtr 0))) (aCons (pe (pVar 3)) (aNil))))) (aNil))))
      (sIf (bV (pe (pOp oIn (pTup (paNil)) (pIx (pFld "Tree" "ways" (pPtr 0)) (pC (.int 0)))))) (sRaise "NotJoined" ["house"] (aCons (pe (pIndex (pIx (pFld "Tree" "ways" (pPtr 0)) (pC (.int 0))) (pTup (paNil)))) (aNil))) (sNil))))))))

theorem d_Tree_init {P : Program} {w : World} {K : PySem.W.Frag} {mg : Str → Option Value} {base : Heap} {k : Nat} {f : Addr} {cdv : Value} {A : Around} {outer : List Env} {s : Shared} {H : Hp} {E : XK} {sp_is_integer sp_are_roads sp_joined_by sp_ways_from : DSp} (B : Blt mg) (hgd : A.guards = some [])
    (hr : Room k (fX P w K mg base N_Tree_init "Tree.__init__" (defScope s_Tree_init) f cdv A outer s H E).A) (h2k : 2 ≤ k) (F_is_integer : FnD P w K mg base k "is_integer" 1 sp_is_integer) (F_are_roads : FnD P w K mg base k "are_roads" 2 sp_are_roads) (F_joined_by : FnD P w K mg base k "joined_by" 2 sp_joined_by) (F_ways_from : FnD P w K mg base k "ways_from" 2 sp_ways_from) (c_MOST_HOUSES : ∃ t, mg "MOST_HOUSES" = some (.int 64 t)) (X_InvalidHouses : XcD P w K mg base "InvalidHouses" ["given"]) (X_InvalidRoads : XcD P w K mg base "InvalidRoads" ["given"]) (X_NotJoined : XcD P w K mg base "NotJoined" ["house"]) (C_Tree : ClD P w K mg base "Tree" ["houses", "roads", "near", "ways"]) :
    DB (fX P w K mg base N_Tree_init "Tree.__init__" (defScope s_Tree_init) f cdv A outer s H E) (fW E) (defBody s_Tree_init) (b_Tree_init sp_is_integer sp_are_roads sp_joined_by sp_ways_from) := by
  have S := S_Tree_init
  have hr2 := hr.mono h2k
  exact db_fz 2 (db_cons (ds_if (DW.dt (dw_or (dt_not (dt_val (de_fnB F_is_integer hgd hr (by rfl) (pss_takes takes_f) (dpa_cons (dp_var (i := 1)) (dpa_nil))))) (dw_or1 (dt_not (dt_chainP (od_le (ru hr)) (od_le (ru hr)) (dp_int) (dp_var (i := 1)) (dp_gint rfl c_MOST_HOUSES)))))) (db_one (ds_raise rfl takes_f hr2 X_InvalidHouses rfl (da_cons (de_p (dp_var (i := 1))) (da_nil)))) (db_nil))
      (db_cons (ds_if (dt_not (dt_val (de_fn F_are_roads hgd hr (by rfl) (pss_takes takes_f) (da_cons (de_p (dp_var (i := 2))) (da_cons (de_p (dp_var (i := 1))) (da_nil)))))) (db_one (ds_raise rfl takes_f hr2 X_InvalidRoads rfl (da_cons (de_p (dp_var (i := 2))) (da_nil)))) (db_nil))
      (db_cons (ds_fld C_Tree (by decide) (dq_ptr (i := 0)) (de_p (dp_var (i := 1))))
      (db_cons (ds_fld C_Tree (by decide) (dq_ptr (i := 0)) (de_callTyP cd_tuple (dpa_cons (dp_var (i := 2)) (dpa_nil)) rfl (B.g "tuple") boot_tuple))
      (db_cons (ds_fld C_Tree (by decide) (dq_ptr (i := 0)) (de_fn F_joined_by hgd hr (by rfl) (pss_takes takes_f) (da_cons (de_p (dp_var (i := 1))) (da_cons (de_p (dp_var (i := 2))) (da_nil)))))
      (db_cons (ds_fld C_Tree (by decide) (dq_ptr (i := 0)) (de_callTy cd_tuple (da_cons (de_lc (own := [("house", 3)]) rfl S.nd (di_range1 rfl (B.g "range") (da_cons (de_p (dp_var (i := 1))) (da_nil))) (blkOk_by (own := [("house", 3)]) (by rfl)) (by decide) (fun z => dg_name (i := 3) S.nd rfl (by first | exact Or.inl rfl | exact Or.inr rfl)) (fun z => dts_nil) (fun z => de_fn F_ways_from hgd hr (by rfl) pss_no (da_cons (de_p (dp_fld C_Tree (by decide) (dp_ptr (i := 0)))) (da_cons (de_p (dp_var (i := 3))) (da_nil))))) (da_nil)) rfl (B.g "tuple") boot_tuple))
      (db_one (ds_if (dt_cmpP (od_in (ru hr)) (dp_tup (dpa_nil)) (dp_ix (ru hr) (dp_fld C_Tree (by decide) (dp_ptr (i := 0))) (dp_int)) (by with_unfolding_all rfl)) (db_one (ds_raise rfl takes_f hr2 X_NotJoined rfl (da_cons (de_p (dp_index (dp_ix (ru hr) (dp_fld C_Tree (by decide) (dp_ptr (i := 0))) (dp_int)) (dp_tup (dpa_nil)))) (da_nil)))) (db_nil)))))))))

abbrev s_Tree_eq : Stmt := meth 17 1
abbrev N_Tree_eq : List Str := ["self", "other"]
abbrev p_Tree_eq : List Str := ["self", "other"]

theorem S_Tree_eq : FnScope N_Tree_eq p_Tree_eq (defScope s_Tree_eq) := ⟨rfl, rfl, rfl, by decide +kernel, rfl, by decide +kernel, by decide +kernel⟩

def b_Tree_eq : SF :=
  sRet (pe (pAnd (pCall (cIsC "Tree") (paCons (pVar 1) (paCons (pC (.cls "Tree")) (paNil)))) (pAnd (pOp oEq (pFld "Tree" "houses" (pVar 0)) (pFld "Tree" "houses" (pVar 1))) (pOp oEq (pFld "Tree" "roads" (pVar 0)) (pFld "Tree" "roads" (pVar 1))))))

theorem d_Tree_eq {P : Program} {w : World} {K : PySem.W.Frag} {mg : Str → Option Value} {base : Heap} {k : Nat} {f : Addr} {cdv : Value} {A : Around} {outer : List Env} {s : Shared} {H : Hp} {E : XK} (B : Blt mg) (hgd : A.guards = some [])
    (hr : Room k (fX P w K mg base N_Tree_eq "Tree.__eq__" (defScope s_Tree_eq) f cdv A outer s H E).A) (C_Tree : ClD P w K mg base "Tree" ["houses", "roads", "near", "ways"]) (I_Tree : IsD K mg "Tree") :
    DB (fX P w K mg base N_Tree_eq "Tree.__eq__" (defScope s_Tree_eq) f cdv A outer s H E) (fW E) (defBody s_Tree_eq) (b_Tree_eq) := by
  have S := S_Tree_eq
  exact db_one (ds_ret (de_p (dp_and (dp_callB (cd_isC I_Tree) (dpa_cons (dp_var (i := 1)) (dpa_cons (dp_gclsI (by rfl) I_Tree) (dpa_nil))) rfl (B.g "isinstance") boot_isinstance) (dp_and (dp_cmp (od_eq (ru hr)) (dp_fld C_Tree (by decide) (dp_var (i := 0))) (dp_fld C_Tree (by decide) (dp_var (i := 1))) (nomark _)) (dp_one (dp_cmp (od_eq (ru hr)) (dp_fld C_Tree (by decide) (dp_var (i := 0))) (dp_fld C_Tree (by decide) (dp_var (i := 1))) (nomark _)))))))

abbrev s_Tree_len : Stmt := meth 17 2
abbrev N_Tree_len : List Str := ["self"]
abbrev p_Tree_len : List Str := ["self"]

theorem S_Tree_len : FnScope N_Tree_len p_Tree_len (defScope s_Tree_len) := ⟨rfl, rfl, rfl, by decide +kernel, rfl, by decide +kernel, by decide +kernel⟩

def b_Tree_len : SF :=
  sRet (nCall cLen (paCons (pFld "Tree" "near" (pVar 0)) (paNil)))

theorem d_Tree_len {P : Program} {w : World} {K : PySem.W.Frag} {mg : Str → Option Value} {base : Heap} {k : Nat} {f : Addr} {cdv : Value} {A : Around} {outer : List Env} {s : Shared} {H : Hp} {E : XK} (B : Blt mg) (hgd : A.guards = some [])
    (hr : Room k (fX P w K mg base N_Tree_len "Tree.__len__" (defScope s_Tree_len) f cdv A outer s H E).A) (C_Tree : ClD P w K mg base "Tree" ["houses", "roads", "near", "ways"]) :
    DB (fX P w K mg base N_Tree_len "Tree.__len__" (defScope s_Tree_len) f cdv A outer s H E) (fW E) (defBody s_Tree_len) (b_Tree_len) := by
  have S := S_Tree_len
  exact db_one (ds_ret (de_callBP cd_len (dpa_cons (dp_fld C_Tree (by decide) (dp_var (i := 0))) (dpa_nil)) rfl (B.g "len") boot_len))

abbrev s_Tree_contains : Stmt := meth 17 3
abbrev N_Tree_contains : List Str := ["self", "value"]
abbrev p_Tree_contains : List Str := ["self", "value"]

theorem S_Tree_contains : FnScope N_Tree_contains p_Tree_contains (defScope s_Tree_contains) := ⟨rfl, rfl, rfl, by decide +kernel, rfl, by decide +kernel, by decide +kernel⟩

def b_Tree_contains (sp_is_index : DSp) : SF :=
  sRet (dFnB sp_is_index (paCons (pVar 1) (paCons (pFld "Tree" "houses" (pVar 0)) (paNil))))

theorem d_Tree_contains {P : Program} {w : World} {K : PySem.W.Frag} {mg : Str → Option Value} {base : Heap} {k : Nat} {f : Addr} {cdv : Value} {A : Around} {outer : List Env} {s : Shared} {H : Hp} {E : XK} {sp_is_index : DSp} (B : Blt mg) (hgd : A.guards = some [])
    (hr : Room k (fX P w K mg base N_Tree_contains "Tree.__contains__" (defScope s_Tree_contains) f cdv A outer s H E).A) (F_is_index : FnD P w K mg base k "is_index" 2 sp_is_index) (C_Tree : ClD P w K mg base "Tree" ["houses", "roads", "near", "ways"]) :
    DB (fX P w K mg base N_Tree_contains "Tree.__contains__" (defScope s_Tree_contains) f cdv A outer s H E) (fW E) (defBody s_Tree_contains) (b_Tree_contains sp_is_index) := by
  have S := S_Tree_contains
  exact db_one (ds_ret (de_fnB F_is_index hgd hr (by rfl) (pss_takes takes_f) (dpa_cons (dp_var (i := 1)) (dpa_cons (dp_fld C_Tree (by decide) (dp_var (i := 0))) (dpa_nil)))))

abbrev s_Tree_line : Stmt := meth 17 4
abbrev N_Tree_line : List Str := ["self", "u", "v"]
abbrev p_Tree_line : List Str := ["self"]

theorem S_Tree_line : FnScope N_Tree_line p_Tree_line (defScope s_Tree_line) := ⟨rfl, rfl, rfl, by decide +kernel, rfl, by decide +kernel, by decide +kernel⟩

def b_Tree_line : SF :=
  sRet (dJoin (pC (.str (" " : Str))) (dLst (aCons (pe (pJoined [pFmt (pFld "Tree" "houses" (pVar 0)), pC (.str (":" : Str))])) (aStar (dLc [1, 2] (iSeq (pe (pFld "Tree" "roads" (pVar 0)))) (tTupT 2 (tsCons (tName 1) (tsCons (tName 2) (tsNil)))) (bYes) (pe (pJoined [pFmt (pVar 1), pC (.str ("-" : Str)), pFmt (pVar 2)]))) (aNil)))))

theorem d_Tree_line {P : Program} {w : World} {K : PySem.W.Frag} {mg : Str → Option Value} {base : Heap} {k : Nat} {f : Addr} {cdv : Value} {A : Around} {outer : List Env} {s : Shared} {H : Hp} {E : XK} (B : Blt mg) (hgd : A.guards = some [])
    (hr : Room k (fX P w K mg base N_Tree_line "Tree.line" (defScope s_Tree_line) f cdv A outer s H E).A) (C_Tree : ClD P w K mg base "Tree" ["houses", "roads", "near", "ways"]) :
    DB (fX P w K mg base N_Tree_line "Tree.line" (defScope s_Tree_line) f cdv A outer s H E) (fW E) (defBody s_Tree_line) (b_Tree_line) := by
  have S := S_Tree_line
  exact db_one (ds_ret (de_join (dp_str) (de_lst (da_cons (de_p (dp_joined (DPJ.cons (dp_fmt (dp_fld C_Tree (by decide) (dp_var (i := 0)))) (DPJ.cons (dp_str) (DPJ.nil))))) (da_star (de_lc (own := [("u", 1), ("v", 2)]) rfl S.nd (di_seq (de_p (dp_fld C_Tree (by decide) (dp_var (i := 0))))) (blkOk_by (own := [("u", 1), ("v", 2)]) (by rfl)) (by decide) (fun z => dg_tup rfl (dgs_cons (dg_name (i := 1) S.nd rfl (by first | exact Or.inl rfl | exact Or.inr rfl)) (dgs_cons (dg_name (i := 2) S.nd rfl (by first | exact Or.inl rfl | exact Or.inr rfl)) (dgs_nil)))) (fun z => dts_nil) (fun z => de_p (dp_joined (DPJ.cons (dp_fmt (dp_var (i := 1))) (DPJ.cons (dp_str) (DPJ.cons (dp_fmt (dp_var (i := 2))) (DPJ.nil))))))) (da_nil))))))

abbrev s_law_veryP : Stmt := top 29
abbrev N_law_veryP : List Str := ["given", "thing", "same"]
abbrev p_law_veryP : List Str := ["given", "thing"]

theorem S_law_veryP : FnScope N_law_veryP p_law_veryP (defScope s_law_veryP) := ⟨rfl, rfl, rfl, by decide +kernel, rfl, by decide +kernel, by decide +kernel⟩

def b_law_veryP : SF :=
  sSeq (sIf (bP (pCall cIsa (paCons (pPtr 1) (paCons (pC (.typ "list")) (paNil))))) (sExpr (dMth "list" mAppend (qPtr 1) (paCons (pC (.str ("more" : Str))) (paNil)))) (sNil))
      (sSeq (sIf (bP (pCall cIsa (paCons (pPtr 1) (paCons (pC (.typ "dict")) (paNil))))) (sAsg (pe (pC (.int 1))) (tSub (qPtr 1) (pC (.str ("more" : Str))))) (sNil))
      (sSeq (sSetF 2 (pe (pOp oEq (pCall cReprX (paCons (pPtr 0) (paNil))) (pCall cReprX (paCons (pPtr 1) (paNil))))))
      (sSeq (sIf (bP (pCall cIsa (paCons (pPtr 1) (paCons (pC (.typ "list")) (paNil))))) (sExpr (dMth0 "list" mPop (qPtr 1))) (sNil))
      (sSeq (sIf (bP (pCall cIsa (paCons (pPtr 1) (paCons (pC (.typ "dict")) (paNil))))) (sExpr (dMth "dict" mDPop (qPtr 1) (paCons (pC (.str ("more" : Str))) (paNil)))) (sNil))
      (sRet (pe (pVar 2)))))))

theorem d_law_veryP {P : Program} {w : World} {K : PySem.W.Frag} {mg : Str → Option Value} {base : Heap} {k : Nat} {f : Addr} {cdv : Value} {A : Around} {outer : List Env} {s : Shared} {H : Hp} {E : XK} (B : Blt mg) (hgd : A.guards = some [])
    (hr : Room k (fX P w K mg base N_law_veryP "_law_very" (defScope s_law_veryP) f cdv A outer s H E).A) :
    DB (fX P w K mg base N_law_veryP "_law_very" (defScope s_law_veryP) f cdv A outer s H E) (fW E) (defBody s_law_veryP) (b_law_veryP) := by
  have S := S_law_veryP
  exact db_cons (ds_if (dt_P (dp_callB cd_isa (dpa_cons (dp_ptr (i := 1)) (dpa_cons (dp_typ rfl (B.g "list") boot_list) (dpa_nil))) rfl (B.g "isinstance") boot_isinstance)) (db_one (ds_expr (de_mth F.plainAttrs_list F.slot_list_append (by rfl) mu_append (dq_ptr (i := 1)) (dpa_cons (dp_str) (dpa_nil))))) (db_nil))
      (db_cons (ds_if (dt_P (dp_callB cd_isa (dpa_cons (dp_ptr (i := 1)) (dpa_cons (dp_typ rfl (B.g "dict") boot_dict) (dpa_nil))) rfl (B.g "isinstance") boot_isinstance)) (db_one (ds_asg (de_p (dp_int)) (dg_sub (ru hr) (dq_ptr (i := 1)) (dp_str)))) (db_nil))
      (db_cons (ds_setF (i := 2) S.nd rfl (by first | exact Or.inl rfl | exact Or.inr rfl) (de_p (dp_cmp (od_eq (ru hr)) (dp_callB (cd_reprX hgd (ru hr)) (dpa_cons (dp_ptr (i := 0)) (dpa_nil)) rfl (B.g "repr") boot_repr) (dp_callB (cd_reprX hgd (ru hr)) (dpa_cons (dp_ptr (i := 1)) (dpa_nil)) rfl (B.g "repr") boot_repr) (nomark _))))
      (db_cons (ds_if (dt_P (dp_callB cd_isa (dpa_cons (dp_ptr (i := 1)) (dpa_cons (dp_typ rfl (B.g "list") boot_list) (dpa_nil))) rfl (B.g "isinstance") boot_isinstance)) (db_one (ds_expr (de_mth0 F.plainAttrs_list F.slot_list_pop (by rfl) mu_pop (dq_ptr (i := 1))))) (db_nil))
      (db_cons (ds_if (dt_P (dp_callB cd_isa (dpa_cons (dp_ptr (i := 1)) (dpa_cons (dp_typ rfl (B.g "dict") boot_dict) (dpa_nil))) rfl (B.g "isinstance") boot_isinstance)) (db_one (ds_expr (de_mth F.plainAttrs_dict F.slot_dict_pop (by rfl) mu_dpop (dq_ptr (i := 1)) (dpa_cons (dp_str) (dpa_nil))))) (db_nil))
      (db_one (ds_ret (de_p (dp_var (i := 2)))))))))

end Mf.L_k92
set_option Elab.async false
set_option linter.all false
set_option maxHeartbeats 1000000
namespace Mf.L_k92
abbrev Rds := List (Nat × Nat)
/-- what a road says of house i -/
def nb (i : Nat) (p : Nat × Nat) : List Nat := if p.1 = i then [p.2] else if p.2 = i then [p.1] else []
def nbrs (i : Nat) : Rds → List Nat
  | [] => []
  | p :: t => nb i p ++ nbrs i t
def mm (e g : Nat) : Nat × Nat := (min e g, max e g)
theorem mm_lt {e g : Nat} (h : e ≠ g) : (mm e g).1 < (mm e g).2 := by
  unfold mm
  dsimp only
  omega
theorem nb_mm {e g : Nat} (h : e ≠ g) (i : Nat) : nb i (mm e g) = if i = e then [g] else if i = g then [e] else [] := by
  unfold nb mm
  dsimp only
  rcases Nat.lt_or_gt_of_ne h with l | l
  · rw [Nat.min_eq_left (by omega), Nat.max_eq_right (by omega)]
    by_cases h1 : i = e
    · subst h1; simp
    · rw [if_neg (fun z => h1 z.symm), if_neg h1]
      by_cases h2 : i = g
      · subst h2; simp
      · rw [if_neg (fun z => h2 z.symm), if_neg h2]
  · rw [Nat.min_eq_right (by omega), Nat.max_eq_left (by omega)]
    by_cases h1 : i = e
    · subst h1; simp; omega
    · rw [if_neg h1]
      by_cases h2 : i = g
      · subst h2; simp
      · rw [if_neg (fun z => h2 z.symm), if_neg (fun z => h1 z.symm), if_neg h2]
theorem nbrs_perm {T R : Rds} (h : List.Perm T R) (i : Nat) : List.Perm (nbrs i T) (nbrs i R) := by
  induction h with
  | nil => exact .refl _
  | cons p _ ih => exact List.Perm.append_left _ ih
  | swap p q t =>
    show List.Perm (nb i q ++ (nb i p ++ nbrs i t)) (nb i p ++ (nb i q ++ nbrs i t))
    rw [← List.append_assoc, ← List.append_assoc]
    exact List.Perm.append_right _ List.perm_append_comm
  | trans _ _ a b => exact a.trans b
abbrev Up (S : List Nat) : Prop := S.Pairwise (· < ·)
theorem up_nodup {S : List Nat} (h : Up S) : S.Nodup := h.imp fun h => by omega
inductive Dec : List Nat → List Nat → Rds → Prop where
  | two {a b : Nat} (h : a < b) : Dec [a, b] [] [(a, b)]
  | step {S row : List Nat} {T : Rds} {e g : Nat} (u : Up S) (me : e ∈ S) (ne : e ∉ g :: row) (le : ∀ h ∈ S, h ∉ g :: row → e ≤ h) (mg : g ∈ S) (r : Dec (S.erase e) row T) : Dec S (g :: row) (mm e g :: T)
theorem Dec.up {S row : List Nat} {T : Rds} (d : Dec S row T) : Up S := by
  cases d with
  | two h => simp [Up, h]
  | step u => exact u
theorem Dec.neq {row : List Nat} {e g : Nat} (ne : e ∉ g :: row) : e ≠ g := fun z => ne (by simp [z])
theorem Dec.sub {S row : List Nat} {T : Rds} (d : Dec S row T) : ∀ g ∈ row, g ∈ S := by
  induction d with
  | two h => simp
  | step u me ne le mg r ih =>
    intro g m
    rcases List.mem_cons.mp m with rfl | m
    · exact mg
    · exact List.mem_of_mem_erase (ih g m)
theorem Dec.len {S row : List Nat} {T : Rds} (d : Dec S row T) : S.length = row.length + 2 ∧ T.length = row.length + 1 := by
  induction d with
  | two h => simp
  | step u me ne le mg r ih =>
    have := List.length_erase_of_mem me
    have := List.length_pos_of_mem me
    simp only [List.length_cons]
    omega
theorem Dec.inr {S row : List Nat} {T : Rds} (d : Dec S row T) : ∀ p ∈ T, p.1 < p.2 ∧ p.1 ∈ S ∧ p.2 ∈ S := by
  induction d with
  | two h =>
    intro p m
    have e := List.mem_singleton.mp m
    subst e
    simp [h]
  | @step S row T e g u me ne le mg r ih =>
    intro p m
    rcases List.mem_cons.mp m with rfl | m
    · refine ⟨mm_lt (Dec.neq ne), ?_, ?_⟩
      · unfold mm; dsimp only; rw [Nat.min_def]; split <;> assumption
      · unfold mm; dsimp only; rw [Nat.max_def]; split <;> assumption
    · have := ih p m
      exact ⟨this.1, List.mem_of_mem_erase this.2.1, List.mem_of_mem_erase this.2.2⟩
theorem nbrs_none {i : Nat} : ∀ {T : Rds}, (∀ p ∈ T, p.1 ≠ i ∧ p.2 ≠ i) → nbrs i T = []
  | [], _ => rfl
  | p :: T, h => by
    have h1 := h p (by simp)
    rw [nbrs, nbrs_none fun q m => h q (.tail _ m)]
    simp [nb, h1.1, h1.2]
theorem nbrs_mem {i j : Nat} : ∀ {T : Rds}, j ∈ nbrs i T → (i, j) ∈ T ∨ (j, i) ∈ T
  | p :: T, m => by
    rw [nbrs] at m
    rcases List.mem_append.mp m with m | m
    · unfold nb at m
      obtain ⟨a, b⟩ := p
      dsimp only at m
      split at m
      · rename_i h; have m' := List.mem_singleton.mp m; subst h m'; simp
      · split at m
        · rename_i h; have m' := List.mem_singleton.mp m; subst h m'; simp
        · simp at m
    · rcases nbrs_mem m with h | h
      · exact .inl (.tail _ h)
      · exact .inr (.tail _ h)
theorem Dec.deg {S row : List Nat} {T : Rds} (d : Dec S row T) : ∀ h, (nbrs h T).length = if h ∈ S then row.count h + 1 else 0 := by
  induction d with
  | @two a b h =>
    intro i
    simp only [nbrs, nb, List.append_nil, List.mem_cons, List.not_mem_nil, or_false]
    by_cases h1 : a = i
    · subst h1; simp
    · rw [if_neg h1]
      by_cases h2 : b = i
      · subst h2; simp
      · rw [if_neg h2, if_neg (by omega)]; rfl
  | @step S row T e g u me ne le mg r ih =>
    intro i
    have nd := up_nodup u
    have eg := Dec.neq ne
    have er : e ∉ row := fun m => ne (.tail _ m)
    rw [nbrs, nb_mm eg, List.length_append, ih i]
    simp only [nd.mem_erase_iff]
    by_cases h1 : i = e
    · subst h1
      simp [me, List.count_cons, List.count_eq_zero_of_not_mem er]
      omega
    · rw [if_neg h1]
      by_cases h2 : i = g
      · subst h2
        simp [h1, mg]
        omega
      · rw [if_neg h2]
        simp [h1, List.count_cons]
        by_cases h3 : i ∈ S
        · simp [h3]; omega
        · simp [h3]
theorem Dec.nd {S row : List Nat} {T : Rds} (d : Dec S row T) : T.Nodup := by
  induction d with
  | two h => simp
  | @step S row T e g u me ne le mg r ih =>
    refine List.nodup_cons.mpr ⟨fun m => ?_, ih⟩
    have := r.inr _ m
    have nm : e ∉ S.erase e := fun z => ((up_nodup u).mem_erase_iff.mp z).1 rfl
    unfold mm at this
    dsimp only at this
    rw [Nat.min_def, Nat.max_def] at this
    split at this
    · exact nm this.2.1
    · exact nm this.2.2
def Conn (S : List Nat) (R : Rds) : Prop := ∀ P : Nat → Prop, (∀ p ∈ R, P p.1 ↔ P p.2) → ∀ i ∈ S, ∀ j ∈ S, P i → P j
theorem mm_iff {P : Nat → Prop} {e g : Nat} (h : P (mm e g).1 ↔ P (mm e g).2) : P e ↔ P g := by
  unfold mm at h
  dsimp only at h
  rw [Nat.min_def, Nat.max_def] at h
  split at h
  · exact h
  · exact h.symm
theorem iff_mm {P : Nat → Prop} {e g : Nat} (h : P e ↔ P g) : P (mm e g).1 ↔ P (mm e g).2 := by
  unfold mm
  dsimp only
  rw [Nat.min_def, Nat.max_def]
  split
  · exact h
  · exact h.symm
theorem Dec.conn {S row : List Nat} {T : Rds} (d : Dec S row T) : Conn S T := by
  induction d with
  | @two a b h =>
    intro P c i hi j hj pi
    have := c (a, b) (by simp)
    dsimp only at this
    simp at hi hj
    rcases hi with rfl | rfl <;> rcases hj with rfl | rfl <;> simp_all
  | @step S row T e g u me ne le mg r ih =>
    intro P c i hi j hj pi
    have q := mm_iff (c (mm e g) (by simp))
    have ge : g ∈ S.erase e := (up_nodup u).mem_erase_iff.mpr ⟨fun z => Dec.neq ne z.symm, mg⟩
    have k := ih P (fun p m => c p (.tail _ m))
    have inS : ∀ i ∈ S, i ≠ e → i ∈ S.erase e := fun i m n => (up_nodup u).mem_erase_iff.mpr ⟨n, m⟩
    have pg : P g := by
      by_cases h : i = e
      · subst h; exact q.mp pi
      · exact k i (inS i hi h) g ge pi
    by_cases h : j = e
    · subst h; exact q.mpr pg
    · exact k g ge j (inS j hj h) pg
theorem sub_len : ∀ (S row : List Nat), S.Nodup → (∀ i ∈ S, i ∈ row) → S.length ≤ row.length
  | [], _, _, _ => Nat.zero_le _
  | s :: S, row, nd, h => by
    have ms := h s (by simp)
    obtain ⟨n1, n2⟩ := List.nodup_cons.mp nd
    have := sub_len S (row.erase s) n2 fun i m => (List.mem_erase_of_ne (fun z : i = s => n1 (z ▸ m))).mpr (h i (.tail _ m))
    rw [List.length_erase_of_mem ms] at this
    have := List.length_pos_of_mem ms
    simp only [List.length_cons]
    omega
theorem least {P : Nat → Bool} : ∀ {S : List Nat}, Up S → (∃ i ∈ S, P i = true) → ∃ e, S.find? P = some e ∧ e ∈ S ∧ P e = true ∧ ∀ h ∈ S, P h = true → e ≤ h
  | [], _, ⟨_, m, _⟩ => nomatch m
  | s :: S, u, ⟨i, m, p⟩ => by
    obtain ⟨u1, u2⟩ := List.pairwise_cons.mp u
    by_cases hs : P s = true
    · refine ⟨s, by simp [hs], by simp, hs, fun h m _ => ?_⟩
      rcases List.mem_cons.mp m with rfl | m
      · exact Nat.le_refl _
      · exact Nat.le_of_lt (u1 h m)
    · have mi : i ∈ S := by
        rcases List.mem_cons.mp m with rfl | m
        · exact absurd p hs
        · exact m
      obtain ⟨e, a, b, c, d⟩ := least u2 ⟨i, mi, p⟩
      refine ⟨e, by simp [hs, a], .tail _ b, c, fun h m q => ?_⟩
      rcases List.mem_cons.mp m with rfl | m
      · exact absurd q hs
      · exact d h m q
def dec : List Nat → List Nat → Rds
  | [a, b], [] => [(a, b)]
  | S, g :: row => match S.find? fun h => !(g :: row).contains h with
    | some e => mm e g :: dec (S.erase e) row
    | none => []
  | _, _ => []
theorem dec_ok : ∀ (row S : List Nat), Up S → S.length = row.length + 2 → (∀ g ∈ row, g ∈ S) → Dec S row (dec S row)
  | [], S, u, l, _ => by
    match S, l with
    | [a, b], _ => exact .two (by simpa [Up] using u)
  | g :: row, S, u, l, h => by
    have ex : ∃ i ∈ S, (!(g :: row).contains i) = true := by
      refine Classical.byContradiction fun no => ?_
      have := sub_len S (g :: row) (up_nodup u) fun i m => Classical.byContradiction fun ni => no ⟨i, m, by simpa using ni⟩
      omega
    obtain ⟨e, a, b, c, d⟩ := least u ex
    have ne : e ∉ g :: row := by simpa using c
    have r := dec_ok row (S.erase e) (u.erase e) (by rw [List.length_erase_of_mem b, l]; simp) fun k m => (List.mem_erase_of_ne (fun z : k = e => ne (.tail _ (z ▸ m)))).mpr (h k (.tail _ m))
    have e1 : dec S (g :: row) = mm e g :: dec (S.erase e) row := by
      rw [dec, a]
    rw [e1]
    exact .step u b ne (fun i m n => d i m (by simpa using n)) (h g (by simp)) r
end Mf.L_k92
set_option Elab.async false
set_option linter.all false
set_option maxHeartbeats 1000000
namespace Mf.L_k92
theorem mem_nbrs {T : Rds} {p : Nat × Nat} (m : p ∈ T) : p.2 ∈ nbrs p.1 T ∧ (p.1 ≠ p.2 → p.1 ∈ nbrs p.2 T) := by
  induction T with
  | nil => cases m
  | cons q T ih =>
    rw [nbrs, nbrs]
    rcases List.mem_cons.mp m with rfl | m
    · refine ⟨List.mem_append_left _ (by simp [nb]), fun n => List.mem_append_left _ (by simp [nb, n])⟩
    · exact ⟨List.mem_append_right _ (ih m).1, fun n => List.mem_append_right _ ((ih m).2 n)⟩
theorem sum_zero : ∀ (S : List Nat) (f : Nat → Nat), (∀ i ∈ S, f i = 0) → (S.map f).sum = 0
  | [], _, _ => rfl
  | s :: S, f, h => by
    rw [List.map_cons, List.sum_cons, h s (by simp), sum_zero S f fun i m => h i (.tail _ m)]
theorem sum_one : ∀ (S : List Nat) (u : Nat), S.Nodup → u ∈ S → (S.map fun i => if i = u then 1 else 0).sum = 1
  | s :: S, u, nd, m => by
    obtain ⟨n1, n2⟩ := List.nodup_cons.mp nd
    rw [List.map_cons, List.sum_cons]
    by_cases h : s = u
    · subst h
      rw [if_pos rfl, sum_zero]
      intro i mi
      exact if_neg fun z : i = s => n1 (z ▸ mi)
    · have mu : u ∈ S := by
        rcases List.mem_cons.mp m with e | m
        · exact absurd e.symm h
        · exact m
      rw [if_neg h, sum_one S u n2 mu]
theorem sum_add : ∀ (S : List Nat) (f g : Nat → Nat), (S.map fun i => f i + g i).sum = (S.map f).sum + (S.map g).sum
  | [], _, _ => rfl
  | s :: S, f, g => by
    simp only [List.map_cons, List.sum_cons, sum_add S f g]
    omega
theorem deg_sum {S : List Nat} (nd : S.Nodup) : ∀ R : Rds, (∀ p ∈ R, p.1 < p.2 ∧ p.1 ∈ S ∧ p.2 ∈ S) → (S.map fun i => (nbrs i R).length).sum = 2 * R.length
  | [], _ => sum_zero S _ fun _ _ => rfl
  | p :: R, h => by
    have h1 := h p (by simp)
    have e : (fun i => (nbrs i (p :: R)).length) = fun i => ((if i = p.1 then 1 else 0) + (if i = p.2 then 1 else 0)) + (nbrs i R).length := by
      funext i
      rw [nbrs, List.length_append, nb]
      congr 1
      by_cases a : p.1 = i
      · rw [if_pos a, if_pos a.symm, if_neg (by omega)]; rfl
      · have a' : ¬ i = p.1 := fun z => a z.symm
        rw [if_neg a, if_neg a']
        by_cases b : p.2 = i
        · rw [if_pos b, if_pos b.symm]; rfl
        · have b' : ¬ i = p.2 := fun z => b z.symm
          rw [if_neg b, if_neg b']; rfl
    rw [e, sum_add, sum_add, sum_one S _ nd h1.2.1, sum_one S _ nd h1.2.2, deg_sum nd R fun q m => h q (.tail _ m), List.length_cons]
    omega
theorem sum_ge : ∀ (S : List Nat) (f : Nat → Nat), (∀ i ∈ S, 2 ≤ f i) → 2 * S.length ≤ (S.map f).sum
  | [], _, _ => Nat.le_refl _
  | s :: S, f, h => by
    have := h s (by simp)
    have := sum_ge S f fun i m => h i (.tail _ m)
    rw [List.map_cons, List.sum_cons, List.length_cons]
    omega
theorem tree_dec : ∀ (m : Nat) (S : List Nat) (R : Rds), Up S → S.length = m + 2 → R.length = m + 1 → (∀ p ∈ R, p.1 < p.2 ∧ p.1 ∈ S ∧ p.2 ∈ S) → Conn S R → ∃ row T, Dec S row T ∧ List.Perm T R
  | 0, S, R, u, l, k, h, c => by
    match S, R, l, k with
    | [a, b], [(x, y)], _, _ =>
      have ab : a < b := by simpa [Up] using u
      have := h (x, y) (by simp)
      simp only [List.mem_cons, List.not_mem_nil, or_false] at this
      obtain ⟨h1, h2, h3⟩ := this
      have : x = a ∧ y = b := by omega
      obtain ⟨rfl, rfl⟩ := this
      exact ⟨[], _, .two ab, .refl _⟩
  | m + 1, S, R, u, l, k, h, c => by
    have nd := up_nodup u
    have pos : ∀ i ∈ S, 1 ≤ (nbrs i R).length := by
      intro i mi
      refine Classical.byContradiction fun no => ?_
      have e : nbrs i R = [] := List.eq_nil_of_length_eq_zero (by omega)
      have cl : ∀ p ∈ R, p.1 = i ↔ p.2 = i := by
        intro p mp
        have q := mem_nbrs mp
        have o := (h p mp).1
        constructor
        · intro z; rw [z, e] at q; simp at q
        · intro z; rw [z, e] at q; exact absurd (q.2 (by omega)) (by simp)
      have all := c (fun j => j = i) cl i mi
      have sl := sub_len S [i] nd fun j mj => by simpa using all j mj rfl
      simp only [List.length_cons, List.length_nil] at sl
      omega
    have ds := deg_sum nd R h
    have ex : ∃ i ∈ S, ((nbrs i R).length == 1) = true := by
      refine Classical.byContradiction fun no => ?_
      have := sum_ge S (fun i => (nbrs i R).length) fun i mi => by
        have := pos i mi
        have : (nbrs i R).length ≠ 1 := fun z => no ⟨i, mi, by simp [z]⟩
        omega
      omega
    obtain ⟨e, _, me, pe, le⟩ := least (P := fun i => (nbrs i R).length == 1) u ex
    have l1 : (nbrs e R).length = 1 := by simpa using pe
    obtain ⟨g, hg⟩ := List.length_eq_one_iff.mp l1
    have mR : mm e g ∈ R ∧ e ≠ g := by
      rcases nbrs_mem (T := R) (i := e) (j := g) (by rw [hg]; simp) with q | q
      · have := (h _ q).1
        dsimp only at this
        have e1 : mm e g = (e, g) := by unfold mm; rw [Nat.min_eq_left (by omega), Nat.max_eq_right (by omega)]
        exact ⟨by rw [e1]; exact q, by omega⟩
      · have := (h _ q).1
        dsimp only at this
        have e1 : mm e g = (g, e) := by unfold mm; rw [Nat.min_eq_right (by omega), Nat.max_eq_left (by omega)]
        exact ⟨by rw [e1]; exact q, by omega⟩
    obtain ⟨mR, eg⟩ := mR
    have pR : List.Perm R (mm e g :: R.erase (mm e g)) := List.perm_cons_erase mR
    have mg : g ∈ S := by
      have := h _ mR
      unfold mm at this
      dsimp only at this
      rw [Nat.min_def, Nat.max_def] at this
      split at this
      · exact this.2.2
      · exact this.2.1
    have ge : g ∈ S.erase e := nd.mem_erase_iff.mpr ⟨fun z => eg z.symm, mg⟩
    have n0 : nbrs e (R.erase (mm e g)) = [] := by
      have q := (nbrs_perm pR e).length_eq
      rw [l1, nbrs, nb_mm eg, if_pos rfl, List.length_append, List.length_singleton] at q
      exact List.eq_nil_of_length_eq_zero (by omega)
    have off : ∀ p ∈ R.erase (mm e g), p.1 ≠ e ∧ p.2 ≠ e := by
      intro p mp
      have q := mem_nbrs mp
      have o := (h p (List.mem_of_mem_erase mp)).1
      constructor
      · intro z; rw [z, n0] at q; simp at q
      · intro z; rw [z, n0] at q; exact absurd (q.2 (by omega)) (by simp)
    obtain ⟨row, T, d, pt⟩ := tree_dec m (S.erase e) (R.erase (mm e g)) (u.erase e) (by rw [List.length_erase_of_mem me, l]; omega) (by rw [List.length_erase_of_mem mR, k]; omega)
      (fun p mp => by
        have q := h p (List.mem_of_mem_erase mp)
        have o := off p mp
        exact ⟨q.1, nd.mem_erase_iff.mpr ⟨o.1, q.2.1⟩, nd.mem_erase_iff.mpr ⟨o.2, q.2.2⟩⟩)
      (fun P cl i mi j mj pi => by
        have inn := fun {i} (z : i ∈ S.erase e) => nd.mem_erase_iff.mp z
        have q := c (fun x => if x = e then P g else P x) (fun p mp => by
          rcases List.mem_cons.mp (pR.subset mp) with rfl | mp
          · refine iff_mm (P := fun x => if x = e then P g else P x) ?_
            show (if e = e then P g else P e) ↔ (if g = e then P g else P g)
            rw [if_pos rfl, if_neg fun z => eg z.symm]
          · have o := off p mp
            show (if p.1 = e then P g else P p.1) ↔ (if p.2 = e then P g else P p.2)
            rw [if_neg o.1, if_neg o.2]
            exact cl p mp) i (inn mi).2 j (inn mj).2
        rw [if_neg (inn mi).1, if_neg (inn mj).1] at q
        exact q pi)
    have er : e ∉ row := fun z => (nd.mem_erase_iff.mp (d.sub e z)).1 rfl
    have pT : List.Perm (mm e g :: T) R := (pt.cons _).trans pR.symm
    refine ⟨g :: row, mm e g :: T, .step u me (by simp [eg, er]) (fun i mi ni => ?_) mg d, pT⟩
    by_cases ie : i = e
    · omega
    refine le i mi ?_
    have q := (nbrs_perm pT i).length_eq
    simp only [List.mem_cons, not_or] at ni
    rw [nbrs, nb_mm eg, if_neg ie, if_neg ni.1, List.length_append, d.deg i, if_pos (nd.mem_erase_iff.mpr ⟨ie, mi⟩), List.count_eq_zero_of_not_mem ni.2] at q
    simp at q ⊢
    omega
abbrev ltN (p q : Nat × Nat) : Prop := p.1 < q.1 ∨ (p.1 = q.1 ∧ p.2 < q.2)
def leP (p q : Nat × Nat) : Bool := decide (p.1 < q.1 ∨ (p.1 = q.1 ∧ p.2 ≤ q.2))
def sortP (T : Rds) : Rds := T.mergeSort leP
theorem sortP_perm (T : Rds) : List.Perm (sortP T) T := List.mergeSort_perm _ _
theorem sortP_le (T : Rds) : (sortP T).Pairwise fun p q => leP p q = true :=
  List.pairwise_mergeSort (by simp only [leP, decide_eq_true_eq]; omega) (by simp only [leP, Bool.or_eq_true, decide_eq_true_eq]; omega) T
theorem leP_anti (p q : Nat × Nat) (h1 : leP p q = true) (h2 : leP q p = true) : p = q := by
  simp only [leP, decide_eq_true_eq] at h1 h2
  exact Prod.ext (by omega) (by omega)
theorem sortP_lt {T : Rds} (h : T.Nodup) : (sortP T).Pairwise ltN := by
  have nd : (sortP T).Nodup := (sortP_perm T).nodup_iff.mpr h
  refine List.Pairwise.imp₂ (fun p q a b => ?_) (sortP_le T) nd
  simp only [leP, decide_eq_true_eq] at a
  have : p.1 = q.1 → p.2 ≠ q.2 := fun x y => b (Prod.ext x y)
  show p.1 < q.1 ∨ (p.1 = q.1 ∧ p.2 < q.2)
  omega
theorem sortP_eq {T R : Rds} (h : List.Perm T R) (u : R.Pairwise ltN) : sortP T = R :=
  List.Perm.eq_of_pairwise (le := fun p q => leP p q = true) (fun p q _ _ a b => leP_anti p q a b) (sortP_le T) (u.imp fun {p q} o => by
    simp only [leP, decide_eq_true_eq]
    have : p.1 < q.1 ∨ (p.1 = q.1 ∧ p.2 < q.2) := o
    omega) ((sortP_perm T).trans h)
end Mf.L_k92
set_option Elab.async false
set_option linter.all false
set_option maxRecDepth 100000
set_option maxHeartbeats 1000000
/-! what the small defs of k92 answer -/
namespace Mf.L_k92
open PySem PySem.Spec PyProof.Rows L2
def isIntD : D → Bool
  | .int _ => true
  | _ => false
def sIsInt : DSp := fun ds st Q _ => ∃ d, ds = [d] ∧ (tyS d).isSome = true ∧ Q (.bl (isIntD d)) st
theorem m_is_integer : ∀ ds st Q E, sIsInt ds st Q E → b_is_integer (spN Q E) (startE 1 ds st) := by
  rintro _ st Q E ⟨d, rfl, h, q⟩
  cases d <;> first | (simp [tyS] at h; done) | exact ⟨rfl, q⟩
theorem tyS_fz (d : D) : tyS (fz d) = tyS d := by
  cases d <;> first | rfl | (rename_i m _; cases m <;> rfl) | (rename_i m _ _; cases m <;> rfl)
theorem isInt_fz (d : D) : isIntD (fz d) = isIntD d := by
  cases d <;> first | rfl | (rename_i m _; cases m <;> rfl) | (rename_i m _ _; cases m <;> rfl)
def isIdxD (d : D) (n : Int) : Bool := match d with
  | .int i => decide (0 ≤ i) && decide (i < n)
  | _ => false
def sIsIdx : DSp := fun ds st Q _ => ∃ d n, ds = [d, .int n] ∧ (tyS d).isSome = true ∧ Q (.bl (isIdxD d n)) st
theorem m_is_index : ∀ ds st Q E, sIsIdx ds st Q E → b_is_index sIsInt (spN Q E) (startE 2 ds st) := by
  rintro _ st Q E ⟨d, n, rfl, h, q⟩
  refine ⟨fz d, rfl, by rw [tyS_fz]; exact h, rfl, ?_⟩
  rw [isInt_fz]
  cases d with
  | int i =>
    show Cmpb (.int 0) (.int i) ∧ onB (.bl (!ltD (.int i) (.int 0))) _
    refine ⟨cmp_int 0 i, ?_⟩
    rw [lt_int]
    by_cases h0 : i < 0
    · have e : isIdxD (.int i) n = false := by simp [isIdxD]; omega
      rw [e] at q
      simp only [h0, decide_true, Bool.not_true]
      exact ⟨rfl, q⟩
    · simp only [h0, decide_false, Bool.not_false]
      refine ⟨cmp_int i n, ?_⟩
      rw [lt_int]
      have e : isIdxD (.int i) n = decide (i < n) := by simp [isIdxD]; omega
      rw [e] at q
      exact ⟨rfl, q⟩
  | _ => exact q
def isLstD : D → Bool
  | .lst _ _ => true
  | .tup _ => true
  | .scr _ => true
  | _ => false
def sIsLst : DSp := fun ds st Q _ => ∃ d, ds = [d] ∧ (tyS d).isSome = true ∧ Q (.bl (isLstD d)) st
theorem isa_lt {d : D} (h : (tyS d).isSome = true) : isaD d (.tup [.typ "list", .typ "tuple"]) = some (isLstD d) := by
  cases d <;> first | (simp [tyS] at h; done) | decide +kernel | (simp only [isaD, tyS, isLstD, Option.bind_some]; decide +kernel)
theorem m_is_list : ∀ ds st Q E, sIsLst ds st Q E → b_is_list (spN Q E) (startE 1 ds st) := by
  rintro _ st Q E ⟨d, rfl, h, q⟩
  refine ⟨by rw [sizeLine_eq]; decide, ?_⟩
  show onO (isaD d (.tup [.typ "list", .typ "tuple"])) _
  rw [isa_lt h]
  exact q
theorem mem_rng {a b : Int} {d : D} (h : d ∈ rng a b) : ∃ i, a ≤ i ∧ i < b ∧ d = .int i := by
  obtain ⟨k, hk, rfl⟩ := List.mem_map.mp h
  have := List.mem_range.mp hk
  exact ⟨a + (k : Int), by omega, by omega, rfl⟩
theorem rng_length (a b : Int) : (rng a b).length = (b - a).toNat := by simp [rng]
theorem atI_in {α : Type} {xs : List α} {i : Int} {z : α} (h0 : 0 ≤ i) (h : i.toNat < xs.length) : atI xs i = some (xs.getD i.toNat z) := by
  unfold atI
  have e : ixN xs.length i = some i.toNat := by
    unfold ixN
    simp [h0]
    omega
  rw [e]
  simp [List.getElem?_eq_getElem h]
def seqD (x : D) (xs : List D) : Prop := x = .tup xs ∨ ∃ m, x = .lst m xs
def ascD (xs : List D) : Bool := (List.range (xs.length - 1)).all fun i => ltD (xs.getD i .non) (xs.getD (i + 1) .non)
def sAsc : DSp := fun ds st Q _ => ∃ x xs, ds = [x] ∧ seqD x xs ∧ xs.length < 4000 ∧ (∀ i, i + 1 < xs.length → Cmpb (xs.getD i .non) (xs.getD (i + 1) .non)) ∧ Q (.bl (ascD xs)) st
theorem m_ascends : ∀ ds st Q E, sAsc ds st Q E → b_ascends (spN Q E) (startE 2 ds st) := by
  rintro _ st Q E ⟨x, xs, rfl, hx, hl, hc, q⟩
  have key : ∀ x : D, (∀ i, ixD x (.int i) = atI xs i) → Sm ((xs.length : Int) - 1) ∧ lcL [1] (tName 1) bYes (pe (pOp oLt (pIx (pVar 0) (pVar 1)) (pIx (pVar 0) (pOp oAdd (pVar 1) (pC (.int 1)))))) (rng 0 ((xs.length : Int) - 1)) [] ⟨[some x, none], st⟩
      fun acc e2 => cAll [.lst .own acc] fun z => (spN Q E).rt z e2 := by
    intro x h2
    refine ⟨⟨by omega, by omega⟩, ?_⟩
    refine lcL_pure (p := fun _ => true) (f := fun d => match d with | .int i => .bl (ltD (xs.getD i.toNat .non) (xs.getD (i.toNat + 1) .non)) | _ => .non) (Nat.lt_succ_self 1) rfl _ [] (fun d m Qb q => q) (fun d m _ Qd q => ?_) ?_ ?_
    · obtain ⟨i, h0, hi, rfl⟩ := mem_rng m
      have hc' := hc i.toNat (by omega)
      have e1 : ixD x (.int i) = some (xs.getD i.toNat .non) := by rw [h2]; exact atI_in (by omega) (by omega)
      have e2 : ixD x (.int (i + 1)) = some (xs.getD (i.toNat + 1) .non) := by
        rw [h2]
        have : (i + 1).toNat = i.toNat + 1 := by omega
        rw [← this]
        exact atI_in (by omega) (by omega)
      show onO (ixD x (.int i)) _
      rw [e1]
      show onO (ixD x (.int (i + 1))) _
      rw [e2]
      exact ⟨hc', rfl, q⟩
    · rw [rng_length]
      rw [sizeLine_eq]
      simp
      omega
    · refine ⟨(List.range (xs.length - 1)).map fun i => ltD (xs.getD i .non) (xs.getD (i + 1) .non), ?_, ?_⟩
      · rw [List.nil_append, List.filter_eq_self.mpr fun _ _ => rfl]
        unfold rng
        rw [List.map_map, List.map_map]
        have e : ((xs.length : Int) - 1 - 0).toNat = xs.length - 1 := by omega
        rw [e]
        refine List.map_congr_left fun i m => ?_
        show D.bl _ = D.bl _
        have e2 : (0 + (i : Int)).toNat = i := by omega
        rw [e2]
      · rw [List.all_map]
        exact q
  rcases hx with rfl | ⟨m, rfl⟩
  · exact ⟨trivial, key (.tup xs) fun i => rfl⟩
  · exact ⟨trivial, key (.lst m xs) fun i => rfl⟩
end Mf.L_k92
set_option Elab.async false
set_option linter.all false
set_option maxRecDepth 100000
set_option maxHeartbeats 1000000
namespace Mf.L_k92
open PySem PySem.Spec PyProof.Rows L2 PySem.SeqAt
abbrev lexT (a b : List (Int ⊕ List Nat)) : Bool := PyProof.Rows.lexLt itemOrd a b
def pairD (p : Int × Int) : D := .tup [.int p.1, .int p.2]
def ltP (p q : Int × Int) : Prop := p.1 < q.1 ∨ (p.1 = q.1 ∧ p.2 < q.2)
theorem cmp_pair (p q : Int × Int) : Cmpb (pairD p) (pairD q) := ⟨rfl, rfl, rfl, nofun⟩
theorem lt_pair {p q : Int × Int} (h : ltP p q) : ltD (pairD p) (pairD q) = true := by
  have one : ∀ {a b : Int} (l m : List (Int ⊕ List Nat)), a < b → lexT (.inl a :: l) (.inl b :: m) = true := fun {a b} l m h => by
    have e := PySem.W.dataLt_int a b
    unfold PySem.W.dataLt PySem.W.keyToks at e
    have e2 := PySem.W.lex_atom (p := .inl a) (q := .inl b) (by intro z; cases z; omega) l m
    rw [show lexT (.inl a :: l) (.inl b :: m) = _ from e2, e]
    simp [h]
  have same : ∀ (x : Int ⊕ List Nat) (l m : List (Int ⊕ List Nat)), lexT (x :: l) (x :: m) = lexT l m := fun x l m => PySem.W.lex_pre [x] l m
  show lexT (.inl 1 :: .inl p.1 :: [.inl 1, .inl p.2, .inl 0]) (.inl 1 :: .inl q.1 :: [.inl 1, .inl q.2, .inl 0]) = true
  rw [same]
  rcases h with h | ⟨h1, h2⟩
  · exact one _ _ h
  · rw [h1, same, same]
    exact one _ _ h2
def RoadIn (n : Int) (p : Int × Int) : Prop := 0 ≤ p.1 ∧ p.1 < p.2 ∧ p.2 < n
def sIsRoad : DSp := fun ds st Q _ => ∃ p n, ds = [pairD p, .int n] ∧ RoadIn n p ∧ Q (.bl true) st
theorem m_is_road : ∀ ds st Q E, sIsRoad ds st Q E → b_is_road sIsIdx (spN Q E) (startE 4 ds st) := by
  rintro _ st Q E ⟨⟨u, v⟩, n, rfl, ⟨h0, h1, h2⟩, q⟩
  dsimp only at h0 h1 h2
  have i1 : isIdxD (.int u) n = true := by simp [isIdxD]; omega
  have i2 : isIdxD (.int v) n = true := by simp [isIdxD]; omega
  have e2 : eqD (.int ((2 : Nat) : Int)) (.int 2) = true := by decide +kernel
  refine ⟨rfl, rfl, rfl, ?_⟩
  show onB (.bl (!eqD (.int ((2 : Nat) : Int)) (.int 2))) _
  rw [e2]
  refine ⟨rfl, ?_⟩
  refine ⟨rfl, (by decide : (2 : Nat) < 4), (by decide : (3 : Nat) < 4), ?_⟩
  refine ⟨.int u, n, rfl, rfl, rfl, ?_⟩
  rw [i1]
  refine ⟨.int v, n, rfl, rfl, rfl, ?_⟩
  rw [i2]
  refine ⟨cmp_int u v, rfl, ?_⟩
  show Q (.bl (ltD (.int u) (.int v))) st
  rw [lt_int]
  simpa [h1] using q
def Asc (rs : List (Int × Int)) : Prop := ∀ i, i + 1 < rs.length → ltP (rs.getD i (0, 0)) (rs.getD (i + 1) (0, 0))
theorem getD_pair {rs : List (Int × Int)} {i : Nat} (h : i < rs.length) : (rs.map pairD).getD i .non = pairD (rs.getD i (0, 0)) := by
  simp [List.getD, List.getElem?_map, List.getElem?_eq_getElem h]
theorem asc_ok {rs : List (Int × Int)} (h : Asc rs) : ascD (rs.map pairD) = true := by
  unfold ascD
  rw [List.length_map]
  refine List.all_eq_true.mpr fun i m => ?_
  have := List.mem_range.mp m
  rw [getD_pair (by omega), getD_pair (by omega)]
  exact lt_pair (h i (by omega))
theorem fz_pairs : ∀ rs : List (Int × Int), fzs (rs.map pairD) = rs.map pairD
  | [] => rfl
  | p :: rs => by
    rw [List.map_cons, fzs, fz_pairs rs] <;> rfl
theorem seq_fz {x : D} {rs : List (Int × Int)} (h : seqD x (rs.map pairD)) : seqD (fz x) (rs.map pairD) := by
  rcases h with rfl | ⟨m, rfl⟩
  · exact .inl (by rw [fz, fz_pairs])
  · cases m with
    | own => exact .inr ⟨.frz, by rw [fz, fz_pairs]⟩
    | _ => exact .inr ⟨_, rfl⟩
def sAreRoads : DSp := fun ds st Q _ => ∃ x n rs, ds = [x, .int n] ∧ seqD x (List.map pairD rs) ∧ nown x = true ∧ (rs.length : Int) = n - 1 ∧ rs.length < 100 ∧ (∀ p ∈ rs, RoadIn n p) ∧ Asc rs ∧ Q (.bl true) st
theorem m_are_roads : ∀ ds st Q E, sAreRoads ds st Q E → b_are_roads sIsLst sIsRoad sAsc (spN Q E) (startE 3 ds st) := by
  rintro _ st Q E ⟨x, n, rs, rfl, hx, hn, hl, hs, hr, ha, q⟩
  have e2 : eqD (.int (n - 1)) (.int (n - 1)) = true := by simp [eqD, toPy, PyData.eqv]
  have body : ∀ x : D, nown x = true → seqD x (List.map pairD rs) → lcL [2] (tName 2) bYes (dFn sIsRoad (aCons (pe (pVar 2)) (aCons (pe (pVar 1)) (aNil)))) (List.map pairD rs) [] ⟨[some x, some (.int n), none], st⟩ (fun acc e2 => cAll [.lst .own acc] fun z => onB z fun k => if k = true then dFnB sAsc (paCons (pVar 0) (paNil)) e2 (spN Q E).rt (spN Q E).ex else (spN Q E).rt (.bl false) e2) := by
    intro x hn hx
    refine lcL_pure (p := fun _ => true) (f := fun _ => .bl true) (Nat.lt_succ_self 2) rfl _ [] (fun d m Qb q => q) (fun d m _ Qd q => ?_) ?_ ?_
    · obtain ⟨p, hp, rfl⟩ := List.mem_map.mp m
      exact ⟨rfl, rfl, p, n, rfl, hr p hp, q⟩
    · rw [sizeLine_eq]
      simp
      omega
    · refine ⟨rs.map fun _ => true, ?_, ?_⟩
      · rw [List.nil_append, List.filter_eq_self.mpr fun _ _ => rfl, List.map_map, List.map_map] <;> rfl
      · have e : (rs.map fun _ => true).all id = true := by simp
        rw [e]
        refine ⟨fz x, rs.map pairD, rfl, ?_, by rw [List.length_map]; omega, fun i l => ?_, ?_⟩
        · exact seq_fz hx
        · rw [List.length_map] at l
          rw [getD_pair (by omega), getD_pair (by omega)]
          exact cmp_pair _ _
        · rw [asc_ok ha]
          exact ⟨rfl, q⟩
  have lst : isLstD (fz x) = true := by
    rcases hx with rfl | ⟨m, rfl⟩
    · rfl
    · cases m <;> rfl
  refine ⟨fz x, rfl, ?_, rfl, ?_⟩
  · rw [tyS_fz]
    rcases hx with rfl | ⟨m, rfl⟩ <;> rfl
  rw [lst]
  have fin := body x hn hx
  rcases hx with rfl | ⟨m, rfl⟩
  · refine ⟨trivial, rfl, rfl, rfl, ?_⟩
    show onB (.bl (!eqD (.int ((List.map pairD rs).length : Nat)) (.int (n - 1)))) _
    rw [List.length_map, hl, e2]
    exact ⟨hn, hn, fin⟩
  · refine ⟨trivial, rfl, rfl, rfl, ?_⟩
    show onB (.bl (!eqD (.int ((List.map pairD rs).length : Nat)) (.int (n - 1)))) _
    rw [List.length_map, hl, e2]
    exact ⟨hn, hn, fin⟩
end Mf.L_k92
set_option Elab.async false
set_option linter.all false
set_option maxRecDepth 100000
set_option maxHeartbeats 1000000
namespace Mf.L_k92
open PySem PySem.Spec PyProof.Rows L2 PySem.SeqAt
abbrev natD (k : Nat) : D := .int (k : Int)
def rowD (l : List Nat) : D := .lst .own (l.map natD)
def tupN (l : List Nat) : D := .tup (l.map natD)
def adjD (a : List (List Nat)) : D := .lst .own (a.map rowD)
def push (a : List (List Nat)) (u v : Nat) : List (List Nat) := a.set u (a.getD u [] ++ [v])
def both (a : List (List Nat)) (p : Nat × Nat) : List (List Nat) := push (push a p.1 p.2) p.2 p.1
def joinN (n : Nat) (rs : List (Nat × Nat)) : List (List Nat) := rs.foldl both (List.replicate n [])
def sortN (l : List Nat) : List Nat := l.mergeSort fun a b => decide (a ≤ b)
def nearN (n : Nat) (rs : List (Nat × Nat)) : List (List Nat) := (joinN n rs).map sortN
def roadD (p : Nat × Nat) : D := pairD ((p.1 : Int), (p.2 : Int))
theorem push_len (a : List (List Nat)) (u v : Nat) : (push a u v).length = a.length := by simp [push]
theorem app_at {a : List (List Nat)} {u v : Nat} {i j k : Nat} {env : En} {Q : D → En → Prop} {E : EK} (hi : getS env i = some (adjD a)) (hj : getS env j = some (natD u)) (hk : getS env k = some (natD v)) (hu : u < a.length) (hz : (a.getD u []).length < 4000)
    (q : Q .non (setS env i (adjD (push a u v)))) : dMth "list" mAppend (qIx (qVar i) (pVar j)) (paCons (pVar k) paNil) env Q E := by
  unfold dMth qIx qVar pVar paCons paNil
  rw [hi]
  simp only [onS]
  rw [hj]
  simp only [onS]
  have e : itD (adjD a) (natD u) = some (rowD (a.getD u []), fun d' => .lst .own ((a.map rowD).set u d')) := by
    have e1 : ixN (a.map rowD).length (u : Int) = some u := by
      unfold ixN
      simp [hu]
    show (ixN (a.map rowD).length (u : Int)).bind _ = _
    rw [e1]
    simp [List.getElem?_map, List.getElem?_eq_getElem hu]
  rw [e]
  simp only [onO]
  rw [hk]
  refine ⟨rfl, rfl, ?_⟩
  show _ ∧ _
  refine ⟨by rw [sizeLine_eq, List.length_map]; omega, ?_⟩
  have e2 : (a.map rowD).set u (.lst .own ((a.getD u []).map natD ++ [natD v])) = (push a u v).map rowD := by
    unfold push
    rw [List.map_set]
    congr 1
    simp [rowD]
  show Q .non (setS env i (.lst .own ((a.map rowD).set u (.lst .own ((a.getD u []).map natD ++ [natD v])))))
  rw [e2]
  exact q
theorem push_row (a : List (List Nat)) (u v i : Nat) : ((push a u v).getD i []).length ≤ (a.getD i []).length + 1 := by
  unfold push
  simp only [List.getD_eq_getElem?_getD, List.getElem?_set]
  split
  · rename_i h
    subst h
    split
    · simp
    · simp
  · omega
/-- the loop that both joined_by and _law_near run -/
theorem join_loop {N : DN} {st : Sto} {n : D} {x : D} {K : List (List Nat) → Prop} (h : ∀ a cu cv, K a → N.nx ⟨[some n, some x, some (adjD a), cu, cv, none, none], st⟩) : ∀ (rest : List (Nat × Nat)) (a : List (List Nat)) (cu cv : Option D), (∀ p ∈ rest, p.1 < a.length ∧ p.2 < a.length) → (∀ i, (a.getD i []).length + 2 * rest.length < 4000) → K (rest.foldl both a) →
    forL (tTupT 2 (tsCons (tName 3) (tsCons (tName 4) (tsNil)))) (sSeq (sExpr (dMth "list" mAppend (qIx (qVar 2) (pVar 3)) (paCons (pVar 4) (paNil)))) (sExpr (dMth "list" mAppend (qIx (qVar 2) (pVar 4)) (paCons (pVar 3) (paNil))))) N (rest.map roadD) ⟨[some n, some x, some (adjD a), cu, cv, none, none], st⟩
  | [], a, cu, cv, _, _, k => h a cu cv k
  | p :: rest, a, cu, cv, hp, hz, k => by
    have hp1 := hp p (by simp)
    have hz1 := hz p.1
    have hz2 := hz p.2
    have r1 := push_row a p.1 p.2 p.2
    rw [List.length_cons] at hz1 hz2
    refine ⟨rfl, (by decide : (3 : Nat) < 7), (by decide : (4 : Nat) < 7), ?_⟩
    show dMth "list" mAppend (qIx (qVar 2) (pVar 3)) (paCons (pVar 4) (paNil)) ⟨[some n, some x, some (adjD a), some (natD p.1), some (natD p.2), none, none], st⟩ _ N.ex
    refine app_at (u := p.1) (v := p.2) rfl rfl rfl hp1.1 (by omega) ?_
    show dMth "list" mAppend (qIx (qVar 2) (pVar 4)) (paCons (pVar 3) (paNil)) ⟨[some n, some x, some (adjD (push a p.1 p.2)), some (natD p.1), some (natD p.2), none, none], st⟩ _ N.ex
    refine app_at (u := p.2) (v := p.1) rfl rfl rfl (by rw [push_len]; exact hp1.2) (by omega) ?_
    refine join_loop h rest (both a p) (some (natD p.1)) (some (natD p.2)) (fun q m => ?_) (fun i => ?_) k
    · have := hp q (.tail _ m)
      simpa [both, push_len] using this
    · have h1 := push_row a p.1 p.2 i
      have h2 := push_row (push a p.1 p.2) p.2 p.1 i
      have h3 := hz i
      rw [List.length_cons] at h3
      show ((push (push a p.1 p.2) p.2 p.1).getD i []).length + _ < _
      omega
theorem le_nat (a b : Nat) : leD (natD a) (natD b) = decide (a ≤ b) := by
  show PySem.W.dataLe false toPy _ _ = _
  unfold PySem.W.dataLe
  have e := PySem.W.dataLt_int (b : Int) (a : Int)
  show (!PySem.W.dataLt (.int (b : Int)) (.int (a : Int))) = _
  rw [e]
  by_cases h : a ≤ b
  · simp [h]
  · have h' : b < a := by omega
    simp [h, h']
theorem sort_nat (l : List Nat) : (l.map natD).mergeSort leD = (sortN l).map natD :=
  (List.map_mergeSort (r := fun a b : Nat => decide (a ≤ b)) (s := leD) (f := natD) (l := l) fun a _ b _ => (le_nat a b).symm).symm
theorem nowns_nat : ∀ l : List Nat, nowns (l.map natD) = true
  | [] => rfl
  | _ :: l => by rw [List.map_cons, nowns, nowns_nat l]; rfl
theorem sorts_nat (l : List Nat) (h : l.length < 4000) : SortsD (l.map natD) := by
  refine ⟨?_, by rw [List.length_map, sizeLine_eq]; omega, ?_, .inr ?_⟩
  · simp [List.all_map, Pl]
  · intro d hd d' hd'
    simp only [List.map_map, List.mem_map] at hd hd'
    obtain ⟨_, _, rfl⟩ := hd
    obtain ⟨_, _, rfl⟩ := hd'
    rfl
  · intro d hd
    simp only [List.map_map, List.mem_map] at hd
    obtain ⟨_, _, rfl⟩ := hd
    exact ⟨nofun, nofun⟩
def frowD (l : List Nat) : D := .lst .frz (l.map natD)
theorem fzs_nat : ∀ l : List Nat, fzs (l.map natD) = l.map natD
  | [] => rfl
  | k :: l => by rw [List.map_cons, fzs, fzs_nat l] <;> rfl
theorem fzs_rows : ∀ a : List (List Nat), fzs (a.map rowD) = a.map frowD
  | [] => rfl
  | l :: a => by
    rw [List.map_cons, fzs, fzs_rows a]
    show fz (.lst .own (l.map natD)) :: _ = _
    rw [fz, fzs_nat] <;> rfl
theorem nowns_frows : ∀ a : List (List Nat), nowns (a.map frowD) = true
  | [] => rfl
  | l :: a => by
    rw [List.map_cons, nowns, nowns_frows a]
    show (nown (.lst .frz (l.map natD)) && true) = true
    rw [Bool.and_true]
    first | rfl | exact nowns_nat l
theorem nowns_tups : ∀ a : List (List Nat), nowns (a.map tupN) = true
  | [] => rfl
  | l :: a => by
    rw [List.map_cons, nowns, nowns_tups a]
    show (nowns (l.map natD) && true) = true
    rw [nowns_nat] <;> rfl
/-- [[] for _ in range(n)] -/
theorem empties (n : Nat) : ((rng 0 (n : Int)).map fun _ => D.lst .own []) = (List.replicate n ([] : List Nat)).map rowD := by
  rw [List.map_replicate]
  refine List.eq_replicate_iff.mpr ⟨by rw [List.length_map, rng_length]; omega, fun d m => ?_⟩
  obtain ⟨_, _, rfl⟩ := List.mem_map.mp m
  rfl
theorem both_len (a : List (List Nat)) (p : Nat × Nat) : (both a p).length = a.length := by simp [both, push_len]
theorem fold_len : ∀ (rs : List (Nat × Nat)) (a : List (List Nat)), (rs.foldl both a).length = a.length
  | [], _ => rfl
  | p :: rs, a => by rw [List.foldl_cons, fold_len rs, both_len]
theorem both_row (a : List (List Nat)) (p : Nat × Nat) (i : Nat) : ((both a p).getD i []).length ≤ (a.getD i []).length + 2 := by
  have h1 := push_row a p.1 p.2 i
  have h2 := push_row (push a p.1 p.2) p.2 p.1 i
  show ((push (push a p.1 p.2) p.2 p.1).getD i []).length ≤ _
  omega
theorem fold_row : ∀ (rs : List (Nat × Nat)) (a : List (List Nat)) (i : Nat), ((rs.foldl both a).getD i []).length ≤ (a.getD i []).length + 2 * rs.length
  | [], _, _ => Nat.le_add_right _ _
  | p :: rs, a, i => by
    have h1 := fold_row rs (both a p) i
    have h2 := both_row a p i
    rw [List.foldl_cons, List.length_cons]
    omega
theorem join_row {n : Nat} {rs : List (Nat × Nat)} {l : List Nat} (h : l ∈ joinN n rs) (hs : rs.length < 100) : l.length < 4000 := by
  obtain ⟨i, hi, rfl⟩ := List.mem_iff_getElem.mp h
  have := fold_row rs (List.replicate n []) i
  have e : ((List.replicate n ([] : List Nat)).getD i []).length = 0 := by
    simp only [List.getD_eq_getElem?_getD, List.getElem?_replicate]
    split <;> rfl
  rw [e] at this
  unfold joinN at hi ⊢
  rw [List.getD_eq_getElem?_getD, List.getElem?_eq_getElem hi] at this
  simp only [Option.getD_some] at this
  omega
end Mf.L_k92
set_option Elab.async false
set_option linter.all false
set_option maxRecDepth 100000
set_option maxHeartbeats 1000000
namespace Mf.L_k92
open PySem PySem.Spec PyProof.Rows L2 PySem.SeqAt
def sJoined : DSp := fun ds st Q _ => ∃ (n : Nat) (x : D) (rs : List (Nat × Nat)), ds = [natD n, x] ∧ seqD x (List.map roadD rs) ∧ nown x = true ∧ n < 100 ∧ rs.length < 100 ∧ (∀ p ∈ rs, p.1 < n ∧ p.2 < n) ∧ Q (.tup ((nearN n rs).map tupN)) st
theorem getD_empties (n i : Nat) : ((List.replicate n ([] : List Nat)).getD i []).length = 0 := by
  simp only [List.getD_eq_getElem?_getD, List.getElem?_replicate]
  split <;> rfl
theorem seq_iter {x : D} {ds : List D} (hx : seqD x ds) (hn : nown x = true) {env : En} {Q : List D → En → Prop} {E : EK} {i : Nat} (hi : getS env i = some x) (q : Q ds env) : iSeq (pe (pVar i)) env Q E := by
  unfold iSeq pe pVar
  rw [hi]
  refine ⟨hn, ?_⟩
  rcases hx with rfl | ⟨m, rfl⟩
  · exact ⟨hn, q⟩
  · exact ⟨hn, q⟩
def srtT : D → D
  | .lst _ xs => .tup (xs.mergeSort leD)
  | _ => .non
abbrev jG : GF := tTupT 2 (tsCons (tName 3) (tsCons (tName 4) (tsNil)))
abbrev jB : SF := sSeq (sExpr (dMth "list" mAppend (qIx (qVar 2) (pVar 3)) (paCons (pVar 4) (paNil)))) (sExpr (dMth "list" mAppend (qIx (qVar 2) (pVar 4)) (paCons (pVar 3) (paNil))))
theorem for_seq {x : D} {ds : List D} {g : GF} {b : SF} {N : DN} {env : En} {i : Nat} (hx : seqD x ds) (hn : nown x = true) (hi : getS env i = some x) (q : forL g b N ds env) : sFor (iSeq (pe (pVar i))) g b N env := seq_iter hx hn hi q
theorem m_joined_by : ∀ ds st Q E, sJoined ds st Q E → b_joined_by (spN Q E) (startE 7 ds st) := by
  rintro _ st Q E ⟨n, x, rs, rfl, hx, hn, h1, h2, hr, q⟩
  refine ⟨rfl, ⟨by omega, by omega⟩, ?_⟩
  show lcL [5] (tName 5) bYes (dLst aNil) (rng 0 (n : Int)) [] ⟨[some (natD n), some x, none, none, none, none, none], st⟩ _
  refine lcL_pure (p := fun _ => true) (f := fun _ => .lst .own []) (by decide : (5 : Nat) < 7) rfl _ [] (fun d m Qb q => q) (fun d m _ Qd q => ⟨Nat.zero_le _, q⟩) (by rw [rng_length, sizeLine_eq]; simp; omega) ?_
  rw [List.nil_append, List.filter_eq_self.mpr fun _ _ => rfl, empties]
  refine ⟨(by decide : (2 : Nat) < 7), ?_⟩
  refine for_seq (i := 1) (g := jG) (b := jB) (env := ⟨[some (natD n), some x, some (adjD (List.replicate n [])), none, none, none, none], st⟩) hx hn rfl ?_
  refine join_loop (K := fun a => a = joinN n rs) (fun a cu cv ea => ?_) rs _ none none (fun p m => by simpa using hr p m) (fun i => by rw [getD_empties]; omega) rfl
  subst ea
  have ff := nowns_frows (joinN n rs)
  rw [← fzs_rows] at ff
  refine ⟨rfl, ?_⟩
  show lcL [6] (tName 6) bYes (nCall cTuple (paCons (pCall cSorted (paCons (pVar 6) paNil)) paNil)) (fzs ((joinN n rs).map rowD)) [] ⟨[some (natD n), some x, some (fz (adjD (joinN n rs))), cu, cv, none, none], st⟩ fun acc e2 => cTuple [.lst .own acc] fun z => (spN Q E).rt z e2
  rw [fzs_rows]
  refine lcL_pure (p := fun _ => true) (f := srtT) (by decide : (6 : Nat) < 7) rfl _ [] (fun d m Qb q => q) (fun d m _ Qd q => ?_) ?_ ?_
  · obtain ⟨l, hl, rfl⟩ := List.mem_map.mp m
    refine ⟨nowns_nat l, sorts_nat l (join_row hl h2), ?_⟩
    rw [sort_nat]
    refine ⟨nowns_nat _, ?_⟩
    have e : srtT (frowD l) = tupN (sortN l) := by
      show D.tup ((l.map natD).mergeSort leD) = _
      rw [sort_nat] <;> rfl
    rw [e] at q
    exact q
  · rw [List.length_map, sizeLine_eq]
    have := fold_len rs (List.replicate n [])
    unfold joinN
    rw [this, List.length_replicate]
    simp
    omega
  · rw [List.nil_append, List.filter_eq_self.mpr fun _ _ => rfl, List.map_map]
    have e : (joinN n rs).map (srtT ∘ frowD) = (nearN n rs).map tupN := by
      unfold nearN
      rw [List.map_map]
      refine List.map_congr_left fun l _ => ?_
      show D.tup ((l.map natD).mergeSort leD) = _
      rw [sort_nat] <;> rfl
    rw [e]
    exact ⟨nowns_tups _, q⟩
def sNear : DSp := fun ds st Q _ => ∃ (n : Nat) (x : D) (rs : List (Nat × Nat)), ds = [natD n, x] ∧ seqD x (List.map roadD rs) ∧ nown x = true ∧ n < 100 ∧ rs.length < 100 ∧ (∀ p ∈ rs, p.1 < n ∧ p.2 < n) ∧ Q (adjD (nearN n rs)) st
def srtL : D → D
  | .lst _ xs => .lst .own (xs.mergeSort leD)
  | _ => .non
theorem m_law_near : ∀ ds st Q E, sNear ds st Q E → b_law_near (spN Q E) (startE 7 ds st) := by
  rintro _ st Q E ⟨n, x, rs, rfl, hx, hn, h1, h2, hr, q⟩
  refine ⟨rfl, ⟨by omega, by omega⟩, ?_⟩
  show lcL [5] (tName 5) bYes (dLst aNil) (rng 0 (n : Int)) [] ⟨[some (natD n), some x, none, none, none, none, none], st⟩ _
  refine lcL_pure (p := fun _ => true) (f := fun _ => .lst .own []) (by decide : (5 : Nat) < 7) rfl _ [] (fun d m Qb q => q) (fun d m _ Qd q => ⟨Nat.zero_le _, q⟩) (by rw [rng_length, sizeLine_eq]; simp; omega) ?_
  rw [List.nil_append, List.filter_eq_self.mpr fun _ _ => rfl, empties]
  refine ⟨(by decide : (2 : Nat) < 7), ?_⟩
  refine for_seq (i := 1) (g := jG) (b := jB) (env := ⟨[some (natD n), some x, some (adjD (List.replicate n [])), none, none, none, none], st⟩) hx hn rfl ?_
  refine join_loop (K := fun a => a = joinN n rs) (fun a cu cv ea => ?_) rs _ none none (fun p m => by simpa using hr p m) (fun i => by rw [getD_empties]; omega) rfl
  subst ea
  have ff := nowns_frows (joinN n rs)
  rw [← fzs_rows] at ff
  refine ⟨rfl, ?_⟩
  show lcL [6] (tName 6) bYes (nCall cSorted (paCons (pVar 6) paNil)) (fzs ((joinN n rs).map rowD)) [] ⟨[some (natD n), some x, some (fz (adjD (joinN n rs))), cu, cv, none, none], st⟩ fun acc e2 => (spN Q E).rt (.lst .own acc) e2
  rw [fzs_rows]
  refine lcL_pure (p := fun _ => true) (f := srtL) (by decide : (6 : Nat) < 7) rfl _ [] (fun d m Qb q => q) (fun d m _ Qd q => ?_) ?_ ?_
  · obtain ⟨l, hl, rfl⟩ := List.mem_map.mp m
    refine ⟨nowns_nat l, sorts_nat l (join_row hl h2), ?_⟩
    have e : srtL (frowD l) = rowD (sortN l) := by
      show D.lst .own ((l.map natD).mergeSort leD) = _
      rw [sort_nat] <;> rfl
    rw [e] at q
    show Qd (D.lst .own ((l.map natD).mergeSort leD)) _
    rw [sort_nat]
    exact q
  · rw [List.length_map, sizeLine_eq]
    have := fold_len rs (List.replicate n [])
    unfold joinN
    rw [this, List.length_replicate]
    simp
    omega
  · rw [List.nil_append, List.filter_eq_self.mpr fun _ _ => rfl, List.map_map]
    have e : (joinN n rs).map (srtL ∘ frowD) = (nearN n rs).map rowD := by
      unfold nearN
      rw [List.map_map]
      refine List.map_congr_left fun l _ => ?_
      show D.lst .own ((l.map natD).mergeSort leD) = _
      rw [sort_nat] <;> rfl
    rw [e]
    exact q
end Mf.L_k92
set_option Elab.async false
set_option linter.all false
set_option maxRecDepth 100000
set_option maxHeartbeats 1000000
namespace Mf.L_k92
open PySem PySem.Spec PyProof.Rows L2 PySem.SeqAt
def fD (f : List (List Nat)) : D := .lst .own (f.map tupN)
def visit (a : Nat) (s : List (List Nat) × List Nat) (o : Nat) : List (List Nat) × List Nat := if s.1.getD o [] = [] then (s.1.set o (s.1.getD a [] ++ [o]), s.2 ++ [o]) else s
theorem eq_empty (l : List Nat) : eqD (tupN l) (.tup []) = decide (l = []) := by
  cases l with
  | nil => decide +kernel
  | cons k l => simp [eqD, tupN, toPy, toPys, PyData.eqv, PyData.eqvAll]
theorem eq_emptyL (l : List Nat) : eqD (rowD l) (.lst .frz []) = decide (l = []) := by
  cases l with
  | nil => decide +kernel
  | cons k l => simp [eqD, rowD, toPy, toPys, PyData.eqv, PyData.eqvAll]
theorem pl_tup (l : List Nat) : Pl 9 (tupN l) = true := by simp [tupN, Pl, List.all_map]
theorem pl_row (l : List Nat) : Pl 9 (rowD l) = true := by simp [rowD, Pl, List.all_map]
theorem atI_nat {f : List (List Nat)} {o : Nat} (h : o < f.length) : atI (f.map tupN) (o : Int) = some (tupN (f.getD o [])) := by
  have e := atI_in (xs := f.map tupN) (i := (o : Int)) (z := tupN []) (by omega) (by simpa using h)
  rw [e]
  simp [List.getD, List.getElem?_map, List.getElem?_eq_getElem h]
abbrev vB : SF := sIf (bV (pe (pOp oEq (pIx (pVar 2) (pVar 5)) (pTup (paNil))))) (sSeq (sAsg (dTup (aStar (pe (pIx (pVar 2) (pVar 4))) (aCons (pe (pVar 5)) (aNil)))) (tSub (qVar 2) (pVar 5)))
      (sExpr (dMth "list" mAppend (qVar 3) (paCons (pVar 5) (paNil))))) (sNil)
theorem visit_loop {N : DN} {st : Sto} {a : Nat} {x h : D} {K : List (List Nat) × List Nat → Prop} (hK : ∀ s c5, K s → N.nx ⟨[some x, some h, some (fD s.1), some (rowD s.2), some (natD a), c5, none], st⟩) :
    ∀ (rest : List Nat) (s : List (List Nat) × List Nat) (c5 : Option D), a < s.1.length → (∀ o ∈ rest, o < s.1.length) → s.1.getD a [] ≠ [] → (s.1.getD a []).length < 3000 → s.2.length + rest.length < 4000 → K (rest.foldl (visit a) s) →
    forL (tName 5) vB N (rest.map natD) ⟨[some x, some h, some (fD s.1), some (rowD s.2), some (natD a), c5, none], st⟩
  | [], s, c5, _, _, _, _, _, k => hK s c5 k
  | o :: rest, (f, fr), c5, ha, ho, hne, hl, hz, k => by
    have ho1 := ho o (by simp)
    dsimp only at ha ho1 hne hl hz
    rw [List.length_cons] at hz
    have ev : ∀ N' : DN, N'.nx = (fun e => forL (tName 5) vB N (rest.map natD) e) → vB N' ⟨[some x, some h, some (fD f), some (rowD fr), some (natD a), some (natD o), none], st⟩ := by
      intro N' eN
      show onO (atI (f.map tupN) (o : Int)) _
      rw [atI_nat ho1]
      refine ⟨Nat.zero_le _, pl_tup _, rfl, rfl, ?_⟩
      rw [eq_empty]
      by_cases hf : f.getD o [] = []
      · rw [decide_eq_true hf]
        show onO (atI (f.map tupN) (a : Int)) _
        rw [atI_nat ha]
        refine ⟨nowns_nat _, nowns_nat _, rfl, by rw [sizeLine_eq, List.length_append, List.length_map]; show _ + 1 ≤ _; omega, ?_⟩
        show onO (setD (fD f) (natD o) (.tup ((f.getD a []).map natD ++ [natD o]))) _
        have e1 : setD (fD f) (natD o) (.tup ((f.getD a []).map natD ++ [natD o])) = some (fD (f.set o (f.getD a [] ++ [o]))) := by
          have e0 : ixN (f.map tupN).length (o : Int) = some o := by
            unfold ixN
            simp [ho1]
          show (ixN (f.map tupN).length (o : Int)).map _ = _
          rw [e0]
          simp [fD, tupN, List.map_set]
        rw [e1]
        show dMth "list" mAppend (qVar 3) (paCons (pVar 5) paNil) ⟨[some x, some h, some (fD (f.set o (f.getD a [] ++ [o]))), some (rowD fr), some (natD a), some (natD o), none], st⟩ _ N'.ex
        refine ⟨rfl, rfl, by rw [List.length_map, sizeLine_eq]; omega, ?_⟩
        have e2 : D.lst .own (fr.map natD ++ [natD o]) = rowD (fr ++ [o]) := by simp [rowD]
        rw [e2]
        show N'.nx ⟨[some x, some h, some (fD (f.set o (f.getD a [] ++ [o]))), some (rowD (fr ++ [o])), some (natD a), some (natD o), none], st⟩
        rw [eN]
        have hao : o ≠ a := fun e => hne (e ▸ hf)
        have same : (f.set o (f.getD a [] ++ [o])).getD a [] = f.getD a [] := by
          simp [List.getD_eq_getElem?_getD, List.getElem?_set_ne hao]
        refine visit_loop hK rest (f.set o (f.getD a [] ++ [o]), fr ++ [o]) _ (by simpa using ha) (fun q m => by simpa using ho q (.tail _ m)) (by dsimp only; rw [same]; exact hne) (by dsimp only; rw [same]; exact hl) (by simp; omega) ?_
        rw [List.foldl_cons] at k
        unfold visit at k
        rw [if_pos hf] at k
        exact k
      · rw [decide_eq_false hf]
        show N'.nx ⟨[some x, some h, some (fD f), some (rowD fr), some (natD a), some (natD o), none], st⟩
        rw [eN]
        refine visit_loop hK rest (f, fr) _ ha (fun q m => ho q (.tail _ m)) hne hl (by show fr.length + _ < _; omega) ?_
        rw [List.foldl_cons] at k
        unfold visit at k
        rw [if_neg hf] at k
        exact k
    exact ⟨(by decide : (5 : Nat) < 7), ev _ rfl⟩
end Mf.L_k92
set_option Elab.async false
set_option linter.all false
set_option maxHeartbeats 1000000
namespace Mf.L_k92
abbrev Fs := List (List Nat)
def unf (f : Fs) : Nat := (f.filter fun l => decide (l = [])).length
theorem unf_set : ∀ (f : Fs) (o : Nat) (l : List Nat), o < f.length → f.getD o [] = [] → l ≠ [] → unf (f.set o l) + 1 = unf f
  | [], _, _, h, _, _ => by simp at h
  | x :: f, 0, l, _, e, n => by
    have ex : x = [] := by simpa using e
    subst ex
    simp [unf, n]
  | x :: f, o + 1, l, h, e, n => by
    have := unf_set f o l (by simpa using h) (by simpa using e) n
    unfold unf at this ⊢
    rw [List.set_cons_succ, List.filter_cons, List.filter_cons]
    split <;> simp_all <;> omega
theorem getD_set (f : Fs) (o i : Nat) (l : List Nat) (h : o < f.length) : (f.set o l).getD i [] = if i = o then l else f.getD i [] := by
  simp only [List.getD_eq_getElem?_getD, List.getElem?_set]
  by_cases e : o = i
  · subst e; simp [h]
  · rw [if_neg e, if_neg (fun z => e z.symm)]
/-- what a run of visits does -/
structure Vis (a : Nat) (rest : List Nat) (s s' : Fs × List Nat) : Prop where
  len : s'.1.length = s.1.length
  kept : ∀ i, s.1.getD i [] ≠ [] → s'.1.getD i [] = s.1.getD i []
  all : ∀ o ∈ rest, s'.1.getD o [] ≠ []
  new : ∀ i, s'.1.getD i [] ≠ [] → s.1.getD i [] ≠ [] ∨ i ∈ s'.2
  old : ∀ v ∈ s.2, v ∈ s'.2
  fr : ∀ v ∈ s'.2, v ∈ s.2 ∨ v ∈ rest
  meas : 2 * unf s'.1 + s'.2.length ≤ 2 * unf s.1 + s.2.length
  size : ∀ n, (∀ i, (s.1.getD i []).length + unf s.1 ≤ n) → ∀ i, (s'.1.getD i []).length + unf s'.1 ≤ n
theorem vis_fold (a : Nat) : ∀ (rest : List Nat) (s : Fs × List Nat), (∀ o ∈ rest, o < s.1.length) → Vis a rest s (rest.foldl (visit a) s)
  | [], s, _ => ⟨rfl, fun _ _ => rfl, (fun _ m => nomatch m), fun _ h => .inl h, fun _ h => h, fun _ h => .inl h, Nat.le_refl _, fun _ h => h⟩
  | o :: rest, (f, fr), ho => by
    have ho1 : o < f.length := ho o (by simp)
    rw [List.foldl_cons]
    by_cases hf : f.getD o [] = []
    · have ev : visit a (f, fr) o = (f.set o (f.getD a [] ++ [o]), fr ++ [o]) := by unfold visit; rw [if_pos hf]
      rw [ev]
      have V := vis_fold a rest (f.set o (f.getD a [] ++ [o]), fr ++ [o]) (fun q m => by simpa using ho q (.tail _ m))
      have u1 := unf_set f o (f.getD a [] ++ [o]) ho1 hf (by simp)
      have g := fun i => getD_set f o i (f.getD a [] ++ [o]) ho1
      generalize rest.foldl (visit a) (f.set o (f.getD a [] ++ [o]), fr ++ [o]) = s' at V
      obtain ⟨v1, v2, v3, v4, v5, v6, v7, v8⟩ := V
      dsimp only at v1 v2 v3 v4 v5 v6 v7 v8
      refine ⟨by simpa using v1, fun i hi => ?_, fun q m => ?_, fun i hi => ?_, fun v m => v5 v (by simp [m]), fun v m => ?_, ?_, fun n hn i => ?_⟩
      · have e : i ≠ o := fun e => hi (e ▸ hf)
        have := v2 i (by rw [g, if_neg e]; exact hi)
        rw [this, g, if_neg e]
      · rcases List.mem_cons.mp m with rfl | m
        · have := v2 q (by rw [g, if_pos rfl]; simp)
          rw [this, g, if_pos rfl]
          simp
        · exact v3 q m
      · rcases v4 i hi with h | h
        · rw [g] at h
          split at h
          · rename_i e
            exact .inr (v5 i (by simp [e]))
          · exact .inl h
        · exact .inr h
      · rcases v6 v m with h | h
        · rcases List.mem_append.mp h with h | h
          · exact .inl h
          · exact .inr (by simp_all)
        · exact .inr (.tail _ h)
      · rw [List.length_append] at v7
        simp only [List.length_cons, List.length_nil] at v7
        dsimp only
        omega
      · refine v8 n (fun j => ?_) i
        rw [g]
        split
        · have := hn a
          dsimp only at this
          rw [List.length_append]
          simp only [List.length_cons, List.length_nil]
          omega
        · have := hn j
          dsimp only at this
          omega
    · have ev : visit a (f, fr) o = (f, fr) := by unfold visit; rw [if_neg hf]
      rw [ev]
      have V := vis_fold a rest (f, fr) (fun q m => ho q (.tail _ m))
      generalize rest.foldl (visit a) (f, fr) = s' at V
      obtain ⟨v1, v2, v3, v4, v5, v6, v7, v8⟩ := V
      refine ⟨v1, v2, fun q m => ?_, v4, v5, fun v m => (v6 v m).imp id (.tail _), v7, v8⟩
      rcases List.mem_cons.mp m with rfl | m
      · rw [v2 q hf]; exact hf
      · exact v3 q m
end Mf.L_k92
set_option Elab.async false
set_option linter.all false
set_option maxRecDepth 100000
set_option maxHeartbeats 1000000
namespace Mf.L_k92
open PySem PySem.Spec PyProof.Rows L2 PySem.SeqAt
structure WInv (near : Fs) (h : Nat) (f : Fs) (fr : List Nat) : Prop where
  len : f.length = near.length
  rng : ∀ v ∈ fr, v < near.length ∧ f.getD v [] ≠ []
  home : f.getD h [] ≠ []
  shut : ∀ i j, f.getD i [] ≠ [] → i ∉ fr → j ∈ near.getD i [] → f.getD j [] ≠ []
  size : ∀ i, (f.getD i []).length + unf f ≤ near.length + 1
theorem unf_le (f : Fs) : unf f ≤ f.length := List.length_filter_le _ _
theorem winv_step {near : Fs} {h a : Nat} {f : Fs} {fr : List Nat} (hn : ∀ i j, j ∈ near.getD i [] → j < near.length) (w : WInv near h f (fr ++ [a])) :
    let s := (near.getD a []).foldl (visit a) (f, fr)
    WInv near h s.1 s.2 ∧ 2 * unf s.1 + s.2.length < 2 * unf f + (fr ++ [a]).length := by
  intro s
  have V := vis_fold a (near.getD a []) (f, fr) (fun o m => by rw [w.len]; exact hn a o m)
  change Vis a (near.getD a []) (f, fr) s at V
  obtain ⟨v1, v2, v3, v4, v5, v6, v7, v8⟩ := V
  dsimp only at v1 v2 v3 v4 v5 v6 v7 v8
  refine ⟨⟨v1.trans w.len, fun v m => ?_, by rw [v2 h w.home]; exact w.home, fun i j hi ni mj => ?_, v8 _ w.size⟩, by rw [List.length_append, List.length_cons, List.length_nil]; omega⟩
  · rcases v6 v m with q | q
    · have := w.rng v (by simp [q])
      exact ⟨this.1, by rw [v2 v this.2]; exact this.2⟩
    · exact ⟨hn a v q, v3 v q⟩
  · by_cases e : i = a
    · subst e
      exact v3 j mj
    · have hf : f.getD i [] ≠ [] := (v4 i hi).resolve_right ni
      have q := w.shut i j hf (fun m => by
        rcases List.mem_append.mp m with m | m
        · exact ni (v5 i m)
        · exact e (by simpa using m)) mj
      rw [v2 j q]
      exact q
def sWays : DSp := fun ds st Q _ => ∃ (near : Fs) (h : Nat), ds = [.tup (near.map tupN), natD h] ∧ near.length < 100 ∧ h < near.length ∧ (∀ i j, j ∈ near.getD i [] → j < near.length) ∧ (∀ i, (near.getD i []).length < 1000) ∧
  ∀ f : Fs, f.length = near.length → f.getD h [] ≠ [] → (∀ i j, f.getD i [] ≠ [] → j ∈ near.getD i [] → f.getD j [] ≠ []) → Q (.tup (f.map tupN)) st
theorem winv0 {near : Fs} {h : Nat} (hh : h < near.length) : WInv near h ((List.replicate near.length ([] : List Nat)).set h [h]) [h] := by
  have l : h < (List.replicate near.length ([] : List Nat)).length := by simpa using hh
  have g := fun i => getD_set (List.replicate near.length ([] : List Nat)) h i [h] l
  have z : ∀ i, (List.replicate near.length ([] : List Nat)).getD i [] = [] := fun i => List.eq_nil_of_length_eq_zero (getD_empties _ _)
  have u := unf_set (List.replicate near.length ([] : List Nat)) h [h] l (z h) (by simp)
  have u2 := unf_le (List.replicate near.length ([] : List Nat))
  rw [List.length_replicate] at u2
  refine ⟨by simp, fun v m => ?_, by rw [g, if_pos rfl]; simp, fun i j hi ni _ => ?_, fun i => ?_⟩
  · have : v = h := by simpa using m
    subst this
    exact ⟨hh, by rw [g, if_pos rfl]; simp⟩
  · rw [g] at hi
    split at hi
    · rename_i e
      exact absurd (by simp [e]) ni
    · exact absurd (z i) hi
  · rw [g]
    split
    · simp only [List.length_cons, List.length_nil]; omega
    · rw [z]; simp only [List.length_nil]; omega
end Mf.L_k92
set_option Elab.async false
set_option linter.all false
set_option maxRecDepth 100000
set_option maxHeartbeats 1000000
namespace Mf.L_k92
open PySem PySem.Spec PyProof.Rows L2 PySem.SeqAt
theorem voids (near : Fs) : ((near.map tupN).map fun _ => D.tup []) = (List.replicate near.length ([] : List Nat)).map tupN := by
  rw [List.map_replicate, List.map_map]
  refine List.eq_replicate_iff.mpr ⟨by simp, fun d m => ?_⟩
  obtain ⟨_, _, rfl⟩ := List.mem_map.mp m
  rfl
theorem set_f {f : Fs} {o : Nat} {l : List Nat} (h : o < f.length) : setD (fD f) (natD o) (tupN l) = some (fD (f.set o l)) := by
  have e0 : ixN (f.map tupN).length (o : Int) = some o := by
    unfold ixN
    simp [h]
  show (ixN (f.map tupN).length (o : Int)).map _ = _
  rw [e0]
  simp [fD, List.map_set]
abbrev wC : BF := bV (pe (pOp oNe (pVar 3) (pLst (paNil))))
abbrev wB : SF := sSeq (sSetF 4 (dMth0 "list" mPop (qVar 3))) (sFor (iSeq (pe (pIx (pVar 0) (pVar 4)))) (tName 5) vB)
theorem pop_at {r : List Nat} {a i : Nat} {env : En} {Q : D → En → Prop} {E : EK} (hi : getS env i = some (rowD (r ++ [a]))) (q : Q (natD a) (setS env i (rowD r))) : dMth0 "list" mPop (qVar i) env Q E := by
  unfold dMth0 qVar
  rw [hi]
  refine ⟨rfl, ?_⟩
  have e : ((r ++ [a]).map natD)[((r ++ [a]).map natD).length - 1]? = some (natD a) := by simp
  have e2 : ((r ++ [a]).map natD).dropLast = r.map natD := by simp
  show onO (((r ++ [a]).map natD)[((r ++ [a]).map natD).length - 1]?) _
  rw [e]
  show Q (natD a) (setS env i (.lst .own (((r ++ [a]).map natD).dropLast)))
  rw [e2]
  exact q
theorem for_row {near : Fs} {a : Nat} {N : DN} {env : En} (h0 : getS env 0 = some (.tup (near.map tupN))) (h4 : getS env 4 = some (natD a)) (ha : a < near.length) (q : forL (tName 5) vB N ((near.getD a []).map natD) env) :
    sFor (iSeq (pe (pIx (pVar 0) (pVar 4)))) (tName 5) vB N env := by
  unfold sFor iSeq pe pIx pVar
  rw [h0]
  simp only [onS]
  rw [h4]
  show onO (atI (near.map tupN) (a : Int)) _
  rw [atI_nat ha]
  exact ⟨nowns_nat _, nowns_nat _, q⟩
theorem ways_loop {N : DN} {st : Sto} {near : Fs} {h : Nat} (h1 : near.length < 100) (h3 : ∀ i j, j ∈ near.getD i [] → j < near.length) (h4 : ∀ i, (near.getD i []).length < 1000)
    (hN : ∀ f c4 c5, f.length = near.length → f.getD h [] ≠ [] → (∀ i j, f.getD i [] ≠ [] → j ∈ near.getD i [] → f.getD j [] ≠ []) → N.nx ⟨[some (.tup (near.map tupN)), some (natD h), some (fD f), some (rowD []), c4, c5, none], st⟩)
    {f : Fs} {fr : List Nat} {c4 c5 : Option D} (w : WInv near h f fr) (hs : 2 * unf f + fr.length < 1000) : sWhile wC wB N ⟨[some (.tup (near.map tupN)), some (natD h), some (fD f), some (rowD fr), c4, c5, none], st⟩ := by
  refine while_inv (fun n e => ∃ f fr c4 c5, e = ⟨[some (.tup (near.map tupN)), some (natD h), some (fD f), some (rowD fr), c4, c5, none], st⟩ ∧ WInv near h f fr ∧ 2 * unf f + fr.length = n ∧ n < 1000) ?_ (n := 2 * unf f + fr.length) ⟨f, fr, c4, c5, rfl, w, rfl, hs⟩
  rintro n _ N' ⟨f, fr, c4, c5, rfl, w, hm, hl⟩ hk e1 e2 e3
  refine ⟨Nat.zero_le _, rfl, pl_row fr, rfl, rfl, ?_⟩
  show onB (.bl (!eqD (rowD fr) (.lst .frz []))) _
  rw [eq_emptyL]
  rcases List.eq_nil_or_concat fr with e | ⟨r, a, e⟩
  · subst e
    exact hN f c4 c5 w.len w.home fun i j hi mj => w.shut i j hi (by simp) mj
  · rw [List.concat_eq_append] at e
    subst e
    have hd : decide (r ++ [a] = []) = false := by simp
    rw [hd]
    have ha := w.rng a (by simp)
    show wB N' ⟨[some (.tup (near.map tupN)), some (natD h), some (fD f), some (rowD (r ++ [a])), c4, c5, none], st⟩
    show dMth0 "list" mPop (qVar 3) ⟨[some (.tup (near.map tupN)), some (natD h), some (fD f), some (rowD (r ++ [a])), c4, c5, none], st⟩ (fun d e1 => 4 < e1.sl.length ∧ sFor (iSeq (pe (pIx (pVar 0) (pVar 4)))) (tName 5) vB N' (setS e1 4 (fz d))) N'.ex
    refine pop_at (i := 3) (env := ⟨[some (.tup (near.map tupN)), some (natD h), some (fD f), some (rowD (r ++ [a])), c4, c5, none], st⟩) rfl ?_
    refine ⟨(by decide : (4 : Nat) < 7), ?_⟩
    refine for_row (env := ⟨[some (.tup (near.map tupN)), some (natD h), some (fD f), some (rowD r), some (natD a), c5, none], st⟩) rfl rfl ha.1 ?_
    have sz := w.size a
    have ul := unf_le f
    have wl := w.len
    rw [List.length_append, List.length_cons, List.length_nil] at hm
    have ws := winv_step h3 w
    refine visit_loop (K := fun s => s = (near.getD a []).foldl (visit a) (f, r)) (fun s c5' es => ?_) (near.getD a []) (f, r) c5 (by dsimp only; omega) (fun o m => by dsimp only; have := h3 a o m; omega) ha.2 (by dsimp only; omega) (by dsimp only; have := h4 a; omega) rfl
    subst es
    exact (hk _ _ (by rw [← hm]; have := ws.2; rw [List.length_append, List.length_cons, List.length_nil] at this; exact this) ⟨_, _, _, _, rfl, ws.1, rfl, by have := ws.2; rw [List.length_append, List.length_cons, List.length_nil] at this; omega⟩).1
theorem m_ways_from : ∀ ds st Q E, sWays ds st Q E → b_ways_from (spN Q E) (startE 7 ds st) := by
  rintro _ st Q E ⟨near, h, rfl, h1, h2, h3, h4, q⟩
  have nt := nowns_tups near
  refine ⟨nt, nt, ?_⟩
  show lcL [6] (tName 6) bYes (dTup aNil) (near.map tupN) [] ⟨[some (.tup (near.map tupN)), some (natD h), none, none, none, none, none], st⟩ _
  refine lcL_pure (p := fun _ => true) (f := fun _ => .tup []) (by decide : (6 : Nat) < 7) rfl _ [] (fun d m Qb q => q) (fun d m _ Qd q => ⟨Nat.zero_le _, q⟩) (by rw [List.length_map, sizeLine_eq]; simp; omega) ?_
  rw [List.nil_append, List.filter_eq_self.mpr fun _ _ => rfl, voids]
  refine ⟨(by decide : (2 : Nat) < 7), ?_⟩
  refine ⟨rfl, by rw [sizeLine_eq]; simp, ?_⟩
  show onO (setD (fD (List.replicate near.length [])) (natD h) (tupN [h])) _
  rw [set_f (by rw [List.length_replicate]; exact h2)]
  refine ⟨rfl, by rw [sizeLine_eq]; simp, (by decide : (3 : Nat) < 7), ?_⟩
  have ul := unf_le ((List.replicate near.length ([] : List Nat)).set h [h])
  rw [List.length_set, List.length_replicate] at ul
  have key := fun N hN => ways_loop (N := N) (st := st) (near := near) (h := h) (c4 := none) (c5 := none) h1 h3 h4 hN (winv0 h2) (by simp only [List.length_cons, List.length_nil]; omega)
  refine key _ fun f c4 c5 l1 l2 l3 => ?_
  exact ⟨nowns_tups f, q f l1 l2 l3⟩
end Mf.L_k92
set_option Elab.async false
set_option linter.all false
set_option maxRecDepth 100000
set_option maxHeartbeats 1000000
namespace Mf.L_k92
open PySem PySem.Spec PyProof.Rows L2 PySem.SeqAt
theorem mem_push {a : Fs} {u v i j : Nat} (hu : u < a.length) : j ∈ (push a u v).getD i [] ↔ j ∈ a.getD i [] ∨ (i = u ∧ j = v) := by
  unfold push
  rw [getD_set a u i _ hu]
  split
  · rename_i e
    subst e
    simp
  · rename_i e
    simp [e]
theorem mem_fold : ∀ (rs : List (Nat × Nat)) (a : Fs) (i j : Nat), (∀ p ∈ rs, p.1 < a.length ∧ p.2 < a.length) → (j ∈ (rs.foldl both a).getD i [] ↔ j ∈ a.getD i [] ∨ (i, j) ∈ rs ∨ (j, i) ∈ rs)
  | [], a, i, j, _ => by simp
  | (u, v) :: rs, a, i, j, h => by
    have h1 := h (u, v) (by simp)
    rw [List.foldl_cons, mem_fold rs (both a (u, v)) i j (fun p m => by rw [both_len]; exact h p (.tail _ m))]
    have e : j ∈ (both a (u, v)).getD i [] ↔ j ∈ a.getD i [] ∨ (i = u ∧ j = v) ∨ (i = v ∧ j = u) := by
      show j ∈ (push (push a u v) v u).getD i [] ↔ _
      rw [mem_push (by rw [push_len]; exact h1.2), mem_push h1.1, or_assoc]
    rw [e]
    simp only [List.mem_cons, Prod.mk.injEq]
    constructor
    · rintro ((h | h | h) | h | h) <;> simp_all
    · rintro (h | (h | h) | (h | h)) <;> simp_all
theorem mem_near {n : Nat} {rs : List (Nat × Nat)} {i j : Nat} (h : ∀ p ∈ rs, p.1 < n ∧ p.2 < n) : j ∈ (nearN n rs).getD i [] ↔ (i, j) ∈ rs ∨ (j, i) ∈ rs := by
  have l := fold_len rs (List.replicate n ([] : List Nat))
  have m := mem_fold rs (List.replicate n ([] : List Nat)) i j (by simpa using h)
  have z : (List.replicate n ([] : List Nat)).getD i [] = [] := List.eq_nil_of_length_eq_zero (getD_empties _ _)
  rw [z] at m
  have e : j ∈ (nearN n rs).getD i [] ↔ j ∈ (joinN n rs).getD i [] := by
    unfold nearN
    simp only [List.getD_eq_getElem?_getD, List.getElem?_map]
    cases (joinN n rs)[i]? with
    | none => simp
    | some l => simp [sortN, List.mem_mergeSort]
  rw [e]
  unfold joinN
  rw [m]
  simp
theorem near_len (n : Nat) (rs : List (Nat × Nat)) : (nearN n rs).length = n := by
  unfold nearN joinN
  rw [List.length_map, fold_len, List.length_replicate]
theorem near_row {n : Nat} {rs : List (Nat × Nat)} (i : Nat) (h : rs.length < 100) : ((nearN n rs).getD i []).length < 1000 := by
  have e : ((nearN n rs).getD i []).length = ((joinN n rs).getD i []).length := by
    unfold nearN
    simp only [List.getD_eq_getElem?_getD, List.getElem?_map]
    cases (joinN n rs)[i]? with
    | none => rfl
    | some l => simp [sortN]
  have := fold_row rs (List.replicate n []) i
  rw [getD_empties] at this
  rw [e]
  unfold joinN
  omega
structure Good (n : Nat) (rs : List (Nat × Nat)) : Prop where
  lo : 1 ≤ n
  hi : n ≤ 64
  len : rs.length + 1 = n
  inr : ∀ p ∈ rs, p.1 < p.2 ∧ p.2 < n
  asc : Asc (rs.map fun p => ((p.1 : Int), (p.2 : Int)))
  conn : ∀ S : Nat → Prop, S 0 → (∀ p ∈ rs, S p.1 ↔ S p.2) → ∀ i, i < n → S i
theorem Good.rng {n : Nat} {rs : List (Nat × Nat)} (g : Good n rs) : ∀ p ∈ rs, p.1 < n ∧ p.2 < n := fun p m => ⟨by have := g.inr p m; omega, (g.inr p m).2⟩
/-- all are met from house 0 -/
theorem Good.met {n : Nat} {rs : List (Nat × Nat)} (g : Good n rs) {f : Fs} (h : f.getD 0 [] ≠ []) (c : ∀ i j, f.getD i [] ≠ [] → j ∈ (nearN n rs).getD i [] → f.getD j [] ≠ []) : ∀ i, i < n → f.getD i [] ≠ [] :=
  g.conn (fun i => f.getD i [] ≠ []) h fun p m => ⟨fun q => c p.1 p.2 q ((mem_near g.rng).mpr (.inl m)), fun q => c p.2 p.1 q ((mem_near g.rng).mpr (.inr m))⟩
end Mf.L_k92
set_option Elab.async false
set_option linter.all false
set_option maxRecDepth 100000
set_option maxHeartbeats 1000000
namespace Mf.L_k92
open PySem PySem.Spec PyProof.Rows L2 PySem.SeqAt
theorem getSt_self (a : Addr) (d : D) (st : Sto) : getSt ((a, d) :: st) a = some d := by simp [getSt]
theorem putSt_self (a : Addr) (d d' : D) (st : Sto) : putSt ((a, d) :: st) a d' = (a, d') :: st := by simp [putSt]
abbrev tI (fs : List (Str × D)) : D := .ins .own "Tree" fs
theorem fldQ {f : Str} {d : D} {N : DN} {a : Addr} {sl : List (Option D)} {fs : List (Str × D)} {st0 : Sto} (hf : f ∉ fs.map (·.1)) (hl : fs.length < 1000) (q : N.nx ⟨some (.ptr a) :: sl, (a, tI (fs ++ [(f, d)])) :: st0⟩) :
    qPtr 0 ⟨some (.ptr a) :: sl, (a, tI fs) :: st0⟩ (fun dx put => match dx with
      | .ins .own c' fs => c' = "Tree" ∧ fs.length < 1000 ∧ f ∉ fs.map (·.1) ∧ N.nx (put (.ins .own c' (fs ++ [(f, d)])))
      | _ => False) := by
  show onO (getSt ((a, tI fs) :: st0) a) _
  rw [getSt_self]
  refine ⟨rfl, hl, hf, ?_⟩
  show N.nx ⟨some (.ptr a) :: sl, putSt ((a, tI fs) :: st0) a (tI (fs ++ [(f, d)]))⟩
  rw [putSt_self]
  exact q
theorem fldG {f : Str} {a : Addr} {sl : List (Option D)} {fs : List (Str × D)} {st0 : Sto} {d : D} (h : fs.lookup f = some d) {Q : D → Prop} (q : Q d) : pFld "Tree" f (pPtr 0) ⟨some (.ptr a) :: sl, (a, tI fs) :: st0⟩ Q := by
  show onO (getSt ((a, tI fs) :: st0) a) _
  rw [getSt_self]
  refine ⟨rfl, ?_⟩
  rw [h]
  exact q
inductive All2 (R : D → D → Prop) : List D → List D → Prop where
  | nil : All2 R [] []
  | cons {d y : D} {ds ys : List D} (h : R d y) (r : All2 R ds ys) : All2 R (d :: ds) (y :: ys)
theorem lcL_rel {v : Nat} {fe : DF} {env : En} {Q : List D → En → Prop} (R : D → D → Prop) (hv : v < env.sl.length) (hw : wipeE env [v] = env) :
    ∀ (ds acc : List D), (∀ d ∈ ds, ∀ Qd : D → En → Prop, (∀ y, R d y → Qd y (setS env v d)) → fe (setS env v d) Qd EN) →
    acc.length + ds.length ≤ sizeLine → (∀ ys, All2 R ds ys → Q (acc ++ ys) env) → lcL [v] (tName v) bYes fe ds acc env Q
  | [], acc, _, _, q => by
    have := q [] .nil
    rw [List.append_nil] at this
    exact this
  | d :: ds, acc, he, hl, q => by
    rw [List.length_cons] at hl
    refine ⟨hv, ?_⟩
    refine he d (by simp) _ fun y hy => ⟨by omega, ?_⟩
    rw [wipe_set hw]
    refine lcL_rel R hv hw ds _ (fun x m => he x (.tail _ m)) (by rw [List.length_append]; simp only [List.length_cons, List.length_nil]; omega) fun ys h => ?_
    rw [List.append_assoc]
    exact q (y :: ys) (.cons hy h)
end Mf.L_k92
set_option Elab.async false
set_option linter.all false
set_option maxRecDepth 100000
set_option maxHeartbeats 1000000
namespace Mf.L_k92
open PySem PySem.Spec PyProof.Rows L2 PySem.SeqAt
def treeF (n : Nat) (rs : List (Nat × Nat)) (ws : List Fs) : List (Str × D) := [("houses", natD n), ("roads", .tup (rs.map roadD)), ("near", .tup ((nearN n rs).map tupN)), ("ways", .tup (ws.map fun f => .tup (f.map tupN)))]
def sInit : DSp := fun ds st Q _ => ∃ (a : Addr) (n : Nat) (x : D) (rs : List (Nat × Nat)) (st0 : Sto), ds = [.ptr a, natD n, x] ∧ st = (a, tI []) :: st0 ∧ seqD x (rs.map roadD) ∧ Good n rs ∧ ∀ ws, Q .non ((a, tI (treeF n rs ws)) :: st0)
def castP (p : Nat × Nat) : Int × Int := ((p.1 : Int), (p.2 : Int))
theorem cast_map (rs : List (Nat × Nat)) : (rs.map castP).map pairD = rs.map roadD := by
  rw [List.map_map] <;> rfl
theorem nown_fz {x : D} {rs : List (Nat × Nat)} (h : seqD x (rs.map roadD)) : nown (fz x) = true := by
  have np : ∀ rs : List (Nat × Nat), nowns (rs.map roadD) = true := fun rs => by
    induction rs with
    | nil => rfl
    | cons p rs ih => rw [List.map_cons, nowns, ih] <;> rfl
  rw [← cast_map] at h
  rcases h with rfl | ⟨m, rfl⟩
  · rw [fz, fz_pairs, cast_map]
    exact np rs
  · cases m <;> rfl
abbrev tT (f : Fs) : D := .tup (f.map tupN)
theorem nowns_T : ∀ ws : List Fs, nowns (ws.map tT) = true
  | [] => rfl
  | f :: ws => by
    rw [List.map_cons, nowns, nowns_T ws]
    show (nowns (f.map tupN) && true) = true
    rw [nowns_tups] <;> rfl
theorem all2_ws {P : Nat → Fs → Prop} : ∀ {ds ys : List D}, All2 (fun d y => ∃ (k : Nat) (f : Fs), d = natD k ∧ y = .tup (f.map tupN) ∧ P k f) ds ys → ∃ ws : List Fs, ys = ws.map tT ∧ ws.length = ds.length ∧ ∀ f0, ws[0]? = some f0 → ∃ k, ds[0]? = some (natD k) ∧ P k f0
  | _, _, .nil => ⟨[], rfl, rfl, fun _ h => nomatch h⟩
  | _, _, .cons ⟨k, f, e1, e2, p⟩ r => by
    obtain ⟨ws, e, l, _⟩ := all2_ws r
    subst e1 e2 e
    refine ⟨f :: ws, rfl, by simp [l], fun f0 h => ?_⟩
    have : f = f0 := by simpa using h
    subst this
    exact ⟨k, rfl, p⟩
theorem fld_tuple {f : Str} {N : DN} {a : Addr} {sl : List (Option D)} {fs : List (Str × D)} {st0 : Sto} {i : Nat} {y : D} {ds : List D} (hi : getS ⟨some (.ptr a) :: sl, (a, tI fs) :: st0⟩ i = some y) (hy : seqD y ds) (hn : nowns ds = true)
    (hf : f ∉ fs.map (·.1)) (hl : fs.length < 1000) (q : N.nx ⟨some (.ptr a) :: sl, (a, tI (fs ++ [(f, .tup ds)])) :: st0⟩) : sFldS "Tree" f (qPtr 0) (nCall cTuple (paCons (pVar i) paNil)) N ⟨some (.ptr a) :: sl, (a, tI fs) :: st0⟩ := by
  unfold sFldS nCall paCons paNil pVar
  rw [hi]
  rcases hy with rfl | ⟨m, rfl⟩
  · exact ⟨hn, fldQ hf hl q⟩
  · exact ⟨hn, fldQ hf hl q⟩
theorem m_Tree_init : ∀ ds st Q E, sInit ds st Q E → b_Tree_init sIsInt sAreRoads sJoined sWays (spN Q E) (startE 4 ds st) := by
  rintro _ _ Q E ⟨a, n, x, rs, st0, rfl, rfl, hx, g, q⟩
  have hz := nown_fz hx
  have hs : seqD (fz x) (rs.map roadD) := by
    rw [← cast_map] at hx ⊢
    exact seq_fz hx
  have c1 : ltD (natD n) (.int 1) = false := by rw [lt_int]; have := g.lo; simp; omega
  have c2 : ltD (.int 64) (natD n) = false := by rw [lt_int]; have := g.hi; simp; omega
  have gl := g.len
  have gh := g.hi
  have glo := g.lo
  refine ⟨natD n, rfl, rfl, rfl, ?_⟩
  refine ⟨cmp_int 1 n, ?_⟩
  show onB (.bl (!ltD (natD n) (.int 1))) _
  rw [c1]
  refine ⟨cmp_int n 64, ?_⟩
  show onB (.bl (!ltD (.int 64) (natD n))) _
  rw [c2]
  refine ⟨hz, rfl, fz x, n, rs.map castP, rfl, by rw [cast_map]; exact hs, hz, by rw [List.length_map]; omega, by rw [List.length_map]; omega, fun p m => ?_, g.asc, ?_⟩
  · obtain ⟨r, mr, rfl⟩ := List.mem_map.mp m
    have := g.inr r mr
    exact ⟨by simp [castP], by simp [castP]; omega, by simp [castP]; omega⟩
  refine ⟨rfl, ?_⟩
  show qPtr 0 ⟨[some (.ptr a), some (natD n), some (fz x), none], (a, tI []) :: st0⟩ _
  refine fldQ (f := "houses") (a := a) (sl := [some (natD n), some (fz x), none]) (fs := []) (st0 := st0) (by decide) (by decide) ?_
  have np : nowns (rs.map roadD) = true := by
    rcases hs with e | ⟨m, e⟩
    · rw [e] at hz; exact hz
    · have : ∀ rs : List (Nat × Nat), nowns (rs.map roadD) = true := fun rs => by
        induction rs with
        | nil => rfl
        | cons p rs ih => rw [List.map_cons, nowns, ih] <;> rfl
      exact this rs
  refine fld_tuple (i := 2) (f := "roads") (a := a) (sl := [some (natD n), some (fz x), none]) (fs := [("houses", natD n)]) (st0 := st0) rfl hs np (by show ("roads" : Str) ∉ ([("houses" : Str)] : List Str); decide) (by simp) ?_
  refine ⟨rfl, hz, n, fz x, rs, rfl, hs, hz, by omega, by omega, g.rng, ?_⟩
  show qPtr 0 ⟨[some (.ptr a), some (natD n), some (fz x), none], (a, tI [("houses", natD n), ("roads", .tup (rs.map roadD))]) :: st0⟩ _
  refine fldQ (f := "near") (a := a) (sl := [some (natD n), some (fz x), none]) (fs := [("houses", natD n), ("roads", .tup (rs.map roadD))]) (st0 := st0) (by show ("near" : Str) ∉ ([("houses" : Str), ("roads" : Str)] : List Str); decide) (by simp) ?_
  refine ⟨rfl, ⟨by omega, by omega⟩, ?_⟩
  refine lcL_rel (fun d y => ∃ (k : Nat) (f : Fs), d = natD k ∧ y = .tup (f.map tupN) ∧ f.length = n ∧ (k = 0 → ∀ i, i < n → f.getD i [] ≠ [])) (env := ⟨[some (.ptr a), some (natD n), some (fz x), none], (a, tI [("houses", natD n), ("roads", .tup (rs.map roadD)), ("near", .tup ((nearN n rs).map tupN))]) :: st0⟩) (by decide : (3 : Nat) < 4) rfl _ [] (fun d m Qd qd => ?_) (by rw [rng_length, sizeLine_eq]; simp; omega) fun ys hys => ?_
  · obtain ⟨i, i0, i1, rfl⟩ := mem_rng m
    obtain ⟨k, rfl⟩ := Int.eq_ofNat_of_zero_le i0
    show pFld "Tree" "near" (pPtr 0) ⟨[some (.ptr a), some (natD n), some (fz x), some (natD k)], (a, tI [("houses", natD n), ("roads", .tup (rs.map roadD)), ("near", .tup ((nearN n rs).map tupN))]) :: st0⟩ _
    refine fldG (sl := [some (natD n), some (fz x), some (natD k)]) (d := .tup ((nearN n rs).map tupN)) rfl ?_
    have nl := near_len n rs
    refine ⟨nowns_tups _, rfl, nearN n rs, k, rfl, by omega, by omega, fun i j m => ?_, fun i => near_row i (by omega), fun f l1 l2 l3 => ?_⟩
    · rw [nl]
      rcases (mem_near g.rng).mp m with h | h
      · exact (g.rng _ h).2
      · exact (g.rng _ h).1
    · exact qd _ ⟨k, f, rfl, rfl, by omega, fun e => by subst e; exact g.met l2 l3⟩
  · obtain ⟨ws, rfl, wl, w0⟩ := all2_ws hys
    rw [rng_length] at wl
    obtain ⟨f0, wr, rfl⟩ : ∃ f0 wr, ws = f0 :: wr := by
      cases ws with
      | nil => simp at wl; omega
      | cons f0 wr => exact ⟨f0, wr, rfl⟩
    obtain ⟨k, hk0, fl, fm⟩ := w0 f0 rfl
    have k0 : k = 0 := by
      have e : (rng 0 (n : Int))[0]? = some (natD 0) := by
        unfold rng
        have : ((n : Int) - 0).toNat = (n - 1) + 1 := by omega
        rw [this, List.range_succ_eq_map]
        rfl
      rw [e] at hk0
      have := Option.some.inj hk0
      injection this with this
      omega
    have nT : nowns ((f0 :: wr).map tT) = true := nowns_T _
    refine ⟨nT, ?_⟩
    show qPtr 0 ⟨[some (.ptr a), some (natD n), some (fz x), none], (a, tI [("houses", natD n), ("roads", .tup (rs.map roadD)), ("near", .tup ((nearN n rs).map tupN))]) :: st0⟩ _
    refine fldQ (f := "ways") (a := a) (sl := [some (natD n), some (fz x), none]) (fs := [("houses", natD n), ("roads", .tup (rs.map roadD)), ("near", .tup ((nearN n rs).map tupN))]) (st0 := st0) (by show ("ways" : Str) ∉ ([("houses" : Str), ("roads" : Str), ("near" : Str)] : List Str); decide) (by simp) ?_
    refine ⟨Nat.zero_le _, ?_⟩
    show pFld "Tree" "ways" (pPtr 0) ⟨[some (.ptr a), some (natD n), some (fz x), none], (a, tI (treeF n rs (f0 :: wr))) :: st0⟩ _
    refine fldG (sl := [some (natD n), some (fz x), none]) (d := .tup ((f0 :: wr).map tT)) rfl ?_
    have e0 : ixD (.tup ((f0 :: wr).map tT)) (.int 0) = some (tT f0) := atI_in (xs := (f0 :: wr).map tT) (i := 0) (z := .non) (by omega) (by simp)
    show onO (ixD (.tup ((f0 :: wr).map tT)) (.int 0)) _
    rw [e0]
    have e1 : inD (.tup []) (tT f0) = some false := by
      show (if Pl 9 (.tup []) = true ∧ (f0.map tupN).all (Pl 9) = true then some (inL (.tup []) (f0.map tupN)) else none) = _
      rw [if_pos ⟨rfl, List.all_eq_true.mpr fun d m => by obtain ⟨l, _, rfl⟩ := List.mem_map.mp m; exact pl_tup l⟩]
      congr 1
      refine List.any_eq_false.mpr fun d m => ?_
      obtain ⟨l, ml, rfl⟩ := List.mem_map.mp m
      rw [eq_empty]
      obtain ⟨i, hi, rfl⟩ := List.mem_iff_getElem.mp ml
      have := fm k0 i (by omega)
      rw [List.getD_eq_getElem?_getD, List.getElem?_eq_getElem hi] at this
      simpa using this
    show onO (inD (.tup []) (tT f0)) _
    rw [e1]
    exact ⟨rfl, q (f0 :: wr)⟩
end Mf.L_k92
set_option Elab.async false
set_option linter.all false
set_option maxRecDepth 100000
set_option maxHeartbeats 1000000
namespace Mf.L_k92
open PySem PySem.Spec PyProof.Rows L2 PySem.SeqAt
def cellOf (ns : List Int) (k : Nat) : Int := if k < ns.length then ns.getD k 0 else 49979723 * (k : Int) + 201
def sCell : DSp := fun ds st Q _ => ∃ (ns : List Int) (k : Nat), ds = [.scr ns, natD k] ∧ Q (.int (cellOf ns k)) st
theorem m_law_cell : ∀ ds st Q E, sCell ds st Q E → b_law_cell (spN Q E) (startE 2 ds st) := by
  rintro _ st Q E ⟨ns, k, rfl, q⟩
  refine ⟨cmp_int _ _, rfl, ?_⟩
  show onB (.bl (ltD (natD k) (.int (ns.length : Nat)))) _
  rw [lt_int]
  by_cases h : k < ns.length
  · have e : decide ((k : Int) < (ns.length : Nat)) = true := by simp [h]
    rw [e]
    have e1 : ixD (.scr ns) (natD k) = some (.int (cellOf ns k)) := by
      show (atI ns (k : Int)).map D.int = _
      rw [atI_in (z := 0) (by omega) (by simpa using h)]
      unfold cellOf
      rw [if_pos h]
      rfl
    show onO (ixD (.scr ns) (natD k)) _
    rw [e1]
    exact ⟨rfl, q⟩
  · have e : decide ((k : Int) < (ns.length : Nat)) = false := by simp; omega
    rw [e]
    have e2 : cellOf ns k = 49979723 * (k : Int) + 201 := by unfold cellOf; rw [if_neg h]
    rw [e2] at q
    refine ⟨?_, ?_⟩
    · exact .inl ⟨by omega, by omega⟩
    · exact q
/-- the box of a cell: high part, low part, how many were drawn -/
def absI (i : Int) : Int := if i < 0 then -i else i
def boxHi (c : Int) : Int := max 0 (absI c - 10 ^ 18)
def boxLo (c : Int) : Int := absI c % 2147483629
def boxD (p q r : Int) : D := .lst .own [.int p, .int q, .int r]
def sBox : DSp := fun ds st Q _ => ∃ c : Int, ds = [.int c] ∧ Q (boxD (boxHi c) (boxLo c) 0) st
theorem m_law_box : ∀ ds st Q E, sBox ds st Q E → b_law_box (spN Q E) (startE 1 ds st) := by
  rintro _ st Q E ⟨c, rfl, q⟩
  refine ⟨⟨by omega, by omega, by decide⟩, ?_⟩
  refine ⟨trivial, ?_⟩
  refine ⟨by omega, rfl, ?_⟩
  refine ⟨by rw [sizeLine_eq]; simp, ?_⟩
  exact q
end Mf.L_k92
set_option Elab.async false
set_option linter.all false
set_option maxRecDepth 100000
set_option maxHeartbeats 1000000
namespace Mf.L_k92
open PySem PySem.Spec PyProof.Rows L2 PySem.SeqAt
section
variable {a : Addr} {sl : List (Option D)} {p q r v : Int} {st0 : Sto} {Q : D → Prop}
theorem box0 (h : Q (.int p)) : pIx (pPtr 0) (pC (.int 0)) ⟨some (.ptr a) :: sl, (a, boxD p q r) :: st0⟩ Q := by
  show onO (getSt ((a, boxD p q r) :: st0) a) _
  rw [getSt_self]
  exact h
theorem box1 (h : Q (.int q)) : pIx (pPtr 0) (pC (.int 1)) ⟨some (.ptr a) :: sl, (a, boxD p q r) :: st0⟩ Q := by
  show onO (getSt ((a, boxD p q r) :: st0) a) _
  rw [getSt_self]
  exact h
theorem box2 (h : Q (.int r)) : pIx (pPtr 0) (pC (.int 2)) ⟨some (.ptr a) :: sl, (a, boxD p q r) :: st0⟩ Q := by
  show onO (getSt ((a, boxD p q r) :: st0) a) _
  rw [getSt_self]
  exact h
theorem put0 {K : En → Prop} (h : K ⟨some (.ptr a) :: sl, (a, boxD v q r) :: st0⟩) : tSub (qPtr 0) (pC (.int 0)) (.int v) ⟨some (.ptr a) :: sl, (a, boxD p q r) :: st0⟩ K := by
  show onO (getSt ((a, boxD p q r) :: st0) a) _
  rw [getSt_self]
  show K ⟨some (.ptr a) :: sl, putSt ((a, boxD p q r) :: st0) a (boxD v q r)⟩
  rw [putSt_self]
  exact h
theorem put2 {K : En → Prop} (h : K ⟨some (.ptr a) :: sl, (a, boxD p q v) :: st0⟩) : tSub (qPtr 0) (pC (.int 2)) (.int v) ⟨some (.ptr a) :: sl, (a, boxD p q r) :: st0⟩ K := by
  show onO (getSt ((a, boxD p q r) :: st0) a) _
  rw [getSt_self]
  show K ⟨some (.ptr a) :: sl, putSt ((a, boxD p q r) :: st0) a (boxD p q v)⟩
  rw [putSt_self]
  exact h
end
def sTake : DSp := fun ds st Q _ => ∃ (a : Addr) (m p q r : Int) (st0 : Sto), ds = [.ptr a, .int m] ∧ st = (a, boxD p q r) :: st0 ∧ 0 < m ∧ m < 1000000 ∧ 0 ≤ p ∧ 0 ≤ q ∧ q < 2147483629 ∧ 0 ≤ r ∧ r < 1000000 ∧
  ∀ d p' r' : Int, 0 ≤ d → d < m → 0 ≤ p' → r ≤ r' → r' ≤ r + 1 → Q (.int d) ((a, boxD p' q r') :: st0)
theorem m_law_take : ∀ ds st Q E, sTake ds st Q E → b_law_take (spN Q E) (startE 4 ds st) := by
  rintro _ _ Q E ⟨a, m, p, q, r, st0, rfl, rfl, m0, m1, p0, q0, q1, r0, r1, k⟩
  show pIx (pPtr 0) (pC (.int 0)) ⟨[some (.ptr a), some (.int m), none, none], (a, boxD p q r) :: st0⟩ _
  refine box0 (sl := [some (.int m), none, none]) ?_
  refine ⟨cmp_int _ _, rfl, ?_⟩
  show onB (.bl (ltD (.int 0) (.int p))) _
  rw [lt_int]
  by_cases h : 0 < p
  · rw [decide_eq_true h]
    show pIx (pPtr 0) (pC (.int 0)) ⟨[some (.ptr a), some (.int m), none, none], (a, boxD p q r) :: st0⟩ _
    refine box0 (sl := [some (.int m), none, none]) ⟨m0, (by decide : (2 : Nat) < 4), ?_⟩
    show pIx (pPtr 0) (pC (.int 0)) ⟨[some (.ptr a), some (.int m), some (.int (p % m)), none], (a, boxD p q r) :: st0⟩ _
    refine box0 (sl := [some (.int m), some (.int (p % m)), none]) ⟨⟨m0, by omega⟩, ?_⟩
    show tSub (qPtr 0) (pC (.int 0)) (.int (p / m)) ⟨[some (.ptr a), some (.int m), some (.int (p % m)), none], (a, boxD p q r) :: st0⟩ _
    refine put0 (sl := [some (.int m), some (.int (p % m)), none]) ⟨rfl, ?_⟩
    exact k _ _ _ (Int.emod_nonneg _ (by omega)) (Int.emod_lt_of_pos _ m0) (Int.ediv_nonneg p0 (by omega)) (Int.le_refl _) (by omega)
  · rw [decide_eq_false h]
    show pIx (pPtr 0) (pC (.int 2)) ⟨[some (.ptr a), some (.int m), none, none], (a, boxD p q r) :: st0⟩ _
    refine box2 (sl := [some (.int m), none, none]) ?_
    show tSub (qPtr 0) (pC (.int 2)) (.int (r + 1)) ⟨[some (.ptr a), some (.int m), none, none], (a, boxD p q r) :: st0⟩ _
    refine put2 (sl := [some (.int m), none, none]) ?_
    show pIx (pPtr 0) (pC (.int 1)) ⟨[some (.ptr a), some (.int m), none, none], (a, boxD p q (r + 1)) :: st0⟩ _
    refine box1 (sl := [some (.int m), none, none]) ?_
    show pIx (pPtr 0) (pC (.int 2)) ⟨[some (.ptr a), some (.int m), none, none], (a, boxD p q (r + 1)) :: st0⟩ _
    refine box2 (sl := [some (.int m), none, none]) ⟨.inl ⟨by omega, by omega⟩, ?_⟩
    refine ⟨⟨by omega, by omega, by omega⟩, by omega, (by decide : (3 : Nat) < 4), ?_⟩
    have n1 : 0 ≤ (q + 7919 * (r + 1) + 201) ^ (5 : Int).toNat % 2147483647 := Int.emod_nonneg _ (by omega)
    have n2 : (q + 7919 * (r + 1) + 201) ^ (5 : Int).toNat % 2147483647 < 2147483647 := Int.emod_lt_of_pos _ (by omega)
    generalize hz : (q + 7919 * (r + 1) + 201) ^ (5 : Int).toNat % 2147483647 = z at n1 n2
    show pIx (pPtr 0) (pC (.int 2)) ⟨[some (.ptr a), some (.int m), none, some (.int ((q + 7919 * (r + 1) + 201) ^ (5 : Int).toNat % 2147483647))], (a, boxD p q (r + 1)) :: st0⟩ _
    rw [hz]
    refine box2 (sl := [some (.int m), none, some (.int z)]) ⟨.inl ⟨by omega, by omega⟩, ?_⟩
    refine ⟨⟨by omega, by omega, by omega⟩, by omega, (by decide : (3 : Nat) < 4), ?_⟩
    refine ⟨⟨by omega, by omega⟩, m0, ?_⟩
    exact k _ _ _ (Int.emod_nonneg _ (by omega)) (Int.emod_lt_of_pos _ m0) p0 (by omega) (by omega)
end Mf.L_k92
set_option Elab.async false
set_option linter.all false
set_option maxRecDepth 100000
set_option maxHeartbeats 1000000
namespace Mf.L_k92
open PySem PySem.Spec PyProof.Rows L2 PySem.SeqAt
theorem er_map : ∀ (l : List Nat) (k : Nat), (l.map natD).eraseIdx k = (l.eraseIdx k).map natD
  | [], _ => rfl
  | _ :: _, 0 => rfl
  | x :: l, k + 1 => by
    rw [List.map_cons, List.eraseIdx_cons_succ, List.eraseIdx_cons_succ, er_map l k, List.map_cons]
theorem er_perm : ∀ (l : List Nat) (k : Nat) (h : k < l.length), List.Perm (l[k] :: l.eraseIdx k) l
  | x :: l, 0, _ => List.Perm.refl _
  | x :: l, k + 1, h => by
    have q := er_perm l k (by simpa using h)
    rw [List.eraseIdx_cons_succ]
    exact (List.Perm.swap ..).trans (List.Perm.cons x q)
abbrev mC : BF := bV (pe (pOp oNe (pVar 2) (pLst (paNil))))
abbrev mB : SF := sExpr (dMthE "list" mAppend 3 (aCons (dMthA "list" mPop 2 (aCons (dFn sTake (aCons (pe (pVar 0)) (aCons (nCall cLen (paCons (pVar 2) (paNil))) (aNil)))) (aNil))) (aNil)))
theorem mixed_loop {N : DN} {a : Addr} {x : D} {q : Int} {st0 : Sto} {all : List Nat} {r0 : Int} (q0 : 0 ≤ q) (q1 : q < 2147483629) (r00 : 0 ≤ r0) (rb : r0 + all.length < 900000) (hall : all.length < 1000)
    (hN : ∀ p' r' found, 0 ≤ p' → r0 ≤ r' → r' ≤ r0 + all.length → List.Perm found all → N.nx ⟨[some (.ptr a), some x, some (rowD []), some (rowD found)], (a, boxD p' q r') :: st0⟩)
    {p r : Int} {left found : List Nat} (hp : 0 ≤ p) (h1 : r0 ≤ r) (h2 : r + left.length ≤ r0 + all.length) (hm : List.Perm (found ++ left) all) :
    sWhile mC mB N ⟨[some (.ptr a), some x, some (rowD left), some (rowD found)], (a, boxD p q r) :: st0⟩ := by
  refine while_inv (fun n e => ∃ p r left found, e = ⟨[some (.ptr a), some x, some (rowD left), some (rowD found)], (a, boxD p q r) :: st0⟩ ∧ 0 ≤ p ∧ r0 ≤ r ∧ r + left.length ≤ r0 + all.length ∧ List.Perm (found ++ left) all ∧ left.length = n) ?_ (n := left.length) ⟨p, r, left, found, rfl, hp, h1, h2, hm, rfl⟩
  rintro n _ N' ⟨p, r, left, found, rfl, hp, h1, h2, hm, hn⟩ hk e1 e2 e3
  refine ⟨Nat.zero_le _, rfl, pl_row left, rfl, rfl, ?_⟩
  show onB (.bl (!eqD (rowD left) (.lst .frz []))) _
  rw [eq_emptyL]
  by_cases hl : left = []
  · subst hl
    simp only [decide_true, Bool.not_true]
    refine hN p r found hp h1 (by simp at h2; omega) (by simpa using hm)
  · have lm := hm.length_eq
    rw [List.length_append] at lm
    have ln : 0 < left.length := List.length_pos_iff.mpr hl
    rw [decide_eq_false hl]
    show mB N' ⟨[some (.ptr a), some x, some (rowD left), some (rowD found)], (a, boxD p q r) :: st0⟩
    have el : (left.map natD).length = left.length := List.length_map ..
    refine ⟨rfl, rfl, rfl, a, ((left.map natD).length : Nat), p, q, r, st0, rfl, rfl, by omega, by omega, hp, q0, q1, by omega, by omega, fun d p' r' d0 d1 p0' r1' r2' => ?_⟩
    obtain ⟨k, rfl⟩ := Int.eq_ofNat_of_zero_le d0
    have kl : k < left.length := by omega
    refine ⟨by omega, by omega, ?_⟩
    have ix : ixN (left.map natD).length (k : Int) = some k := by
      unfold ixN
      simp [kl]
    show onO (ixN (left.map natD).length (k : Int)) _
    rw [ix]
    have gt : (left.map natD)[k]? = some (natD left[k]) := by simp [List.getElem?_map, List.getElem?_eq_getElem kl]
    show onO ((left.map natD)[k]?) _
    rw [gt]
    refine ⟨by rw [List.length_map, sizeLine_eq]; omega, ?_⟩
    have ea : D.lst .own ((left.map natD).eraseIdx k) = rowD (left.eraseIdx k) := by rw [er_map] <;> rfl
    have eb : D.lst .own (found.map natD ++ [natD left[k]]) = rowD (found ++ [left[k]]) := by simp [rowD]
    show N'.nx ⟨[some (.ptr a), some x, some (.lst .own ((left.map natD).eraseIdx k)), some (.lst .own (found.map natD ++ [natD left[k]]))], (a, boxD p' q r') :: st0⟩
    rw [ea, eb]
    have le : (left.eraseIdx k).length = left.length - 1 := List.length_eraseIdx_of_lt kl
    have pm : List.Perm (left[k] :: left.eraseIdx k) left := er_perm left k kl
    refine (hk (left.eraseIdx k).length _ (by omega) ⟨p', r', _, _, rfl, p0', by omega, by omega, ?_, rfl⟩).1
    rw [List.append_assoc]
    exact (List.Perm.append_left found pm).trans hm
def sMixed : DSp := fun ds st Q _ => ∃ (a : Addr) (x : D) (all : List Nat) (p q r : Int) (st0 : Sto), ds = [.ptr a, x] ∧ seqD x (all.map natD) ∧ all.length < 1000 ∧ st = (a, boxD p q r) :: st0 ∧ 0 ≤ p ∧ 0 ≤ q ∧ q < 2147483629 ∧ 0 ≤ r ∧ r < 800000 ∧
  ∀ found p' r', 0 ≤ p' → r ≤ r' → r' ≤ r + all.length → List.Perm found all → Q (rowD found) ((a, boxD p' q r') :: st0)
end Mf.L_k92
set_option Elab.async false
set_option linter.all false
set_option maxRecDepth 100000
set_option maxHeartbeats 1000000
namespace Mf.L_k92
open PySem PySem.Spec PyProof.Rows L2 PySem.SeqAt
theorem m_law_mixed : ∀ ds st Q E, sMixed ds st Q E → b_law_mixed sTake (spN Q E) (startE 4 ds st) := by
  rintro _ _ Q E ⟨a, x, all, p, q, r, st0, rfl, hx, hl, rfl, p0, q0, q1, r0, r1, k⟩
  have key : ∀ N : DN, (∀ c4 p' r' found, 0 ≤ p' → r ≤ r' → r' ≤ r + all.length → List.Perm found all → N.nx ⟨[some (.ptr a), some x, some (rowD []), some (rowD found)], (a, boxD p' q r') :: st0⟩) → sWhile mC mB N ⟨[some (.ptr a), some x, some (rowD all), some (rowD [])], (a, boxD p q r) :: st0⟩ :=
    fun N hN => mixed_loop (all := all) (r0 := r) q0 q1 r0 (by omega) hl (fun p' r' found => hN (0 : Nat) p' r' found) p0 (Int.le_refl _) (Int.le_refl _) (List.Perm.refl _)
  have fin : ∀ p' r' found, 0 ≤ p' → r ≤ r' → r' ≤ r + all.length → List.Perm found all → sRet (dMove 3) (spN Q E) ⟨[some (.ptr a), some x, some (rowD []), some (rowD found)], (a, boxD p' q r') :: st0⟩ := fun p' r' found h1 h2 h3 h4 => k found p' r' h1 h2 h3 h4
  rcases hx with rfl | ⟨m, rfl⟩
  · refine ⟨nowns_nat all, Nat.zero_le _, ?_⟩
    refine ⟨(by decide : (2 : Nat) < 4), (by decide : (3 : Nat) < 4), ?_⟩
    exact key _ fun _ => fin
  · refine ⟨nowns_nat all, Nat.zero_le _, ?_⟩
    refine ⟨(by decide : (2 : Nat) < 4), (by decide : (3 : Nat) < 4), ?_⟩
    exact key _ fun _ => fin
end Mf.L_k92
set_option Elab.async false
set_option linter.all false
set_option maxRecDepth 100000
set_option maxHeartbeats 1000000
namespace Mf.L_k92
open PySem PySem.Spec PyProof.Rows L2 PySem.SeqAt
theorem eqv_roads : ∀ rs : List (Nat × Nat), PyData.eqvAll (toPys (rs.map roadD)) (toPys (rs.map roadD)) = true
  | [] => by simp [toPys, PyData.eqvAll]
  | p :: rs => by
    rw [List.map_cons, toPys]
    simp [PyData.eqvAll, eqv_roads rs, roadD, pairD, toPy, toPys, PyData.eqv]
theorem eq_roads (rs : List (Nat × Nat)) : eqD (.tup (rs.map roadD)) (.tup (rs.map roadD)) = true := by
  show PyData.eqv (toPy (.tup (rs.map roadD))) (toPy (.tup (rs.map roadD))) = true
  rw [toPy, PyData.eqv]
  exact eqv_roads rs
theorem pl_roads (rs : List (Nat × Nat)) : Pl 9 (.tup (rs.map roadD)) = true := by
  simp [Pl, List.all_map, roadD, pairD]
def sEq : DSp := fun ds st Q _ => ∃ (m m' : Mk) (n : Nat) (rs : List (Nat × Nat)) (ws ws' : List Fs), ds = [.ins m "Tree" (treeF n rs ws), .ins m' "Tree" (treeF n rs ws')] ∧ Q (.bl true) st
theorem m_Tree_eq : ∀ ds st Q E, sEq ds st Q E → b_Tree_eq (spN Q E) (startE 2 ds st) := by
  rintro _ st Q E ⟨m, m', n, rs, ws, ws', rfl, q⟩
  refine ⟨rfl, rfl, ?_⟩
  refine ⟨rfl, rfl, rfl, rfl, ?_⟩
  have e1 : eqD (natD n) (natD n) = true := by simp [eqD, toPy, PyData.eqv]
  show onB (.bl (eqD (natD n) (natD n))) _
  rw [e1]
  refine ⟨rfl, rfl, pl_roads rs, pl_roads rs, ?_⟩
  rw [eq_roads]
  exact ⟨rfl, q⟩
end Mf.L_k92
set_option Elab.async false
set_option linter.all false
set_option maxRecDepth 100000
set_option maxHeartbeats 1000000
namespace Mf.L_k92
open PySem PySem.Spec PyProof.Rows L2 PySem.SeqAt
abbrev intS (k : Nat) : Str := (toString (k : Int) : String)
theorem intS_len : ∀ k : Nat, k < 100 → (intS k).length ≤ 2 := by decide +kernel
theorem intS_log : ∀ k : Nat, k < 100 → ((k : Int)).natAbs.log2 < 1920 := by decide +kernel
def headS (n : Nat) : Str := Str.empty ++ intS n ++ (":" : Str)
def roadS (p : Nat × Nat) : Str := Str.empty ++ intS p.1 ++ ("-" : Str) ++ intS p.2
theorem len_app (x y : Str) : (x ++ y).length = x.length + y.length := by
  show (x.cps ++ y.cps).size = _
  rw [Array.size_append]
  rfl
theorem headS_len {n : Nat} (h : n < 100) : (headS n).length ≤ 3 := by
  have := intS_len n h
  unfold headS
  rw [len_app, len_app]
  have e : (":" : Str).length = 1 := by decide +kernel
  have e0 : Str.empty.length = 0 := by decide +kernel
  omega
theorem roadS_len {p : Nat × Nat} (h : p.1 < 100 ∧ p.2 < 100) : (roadS p).length ≤ 5 := by
  have h1 := intS_len p.1 h.1
  have h2 := intS_len p.2 h.2
  unfold roadS
  rw [len_app, len_app, len_app]
  have e : ("-" : Str).length = 1 := by decide +kernel
  have e0 : Str.empty.length = 0 := by decide +kernel
  omega
def lineS (n : Nat) (rs : List (Nat × Nat)) : Str := Txt.join (" " : Str) (headS n :: rs.map roadS)
def sLine : DSp := fun ds st Q _ => ∃ (m : Mk) (n : Nat) (rs : List (Nat × Nat)) (ws : List Fs), ds = [.ins m "Tree" (treeF n rs ws)] ∧ n < 100 ∧ rs.length < 100 ∧ (∀ p ∈ rs, p.1 < 100 ∧ p.2 < 100) ∧ Q (.str (lineS n rs)) st
theorem line_loop {t : D} {st : Sto} {K : List D → En → Prop} : ∀ (rs : List (Nat × Nat)) (acc : List D), (∀ p ∈ rs, p.1 < 100 ∧ p.2 < 100) → acc.length + rs.length < 4000 → K (acc ++ rs.map fun p => D.str (roadS p)) ⟨[some t, none, none], st⟩ →
    lcL [1, 2] (tTupT 2 (tsCons (tName 1) (tsCons (tName 2) (tsNil)))) bYes (pe (pJoined [pFmt (pVar 1), pC (.str ("-" : Str)), pFmt (pVar 2)])) (rs.map roadD) acc ⟨[some t, none, none], st⟩ K
  | [], acc, _, _, k => by simpa [lcL] using k
  | p :: rs, acc, hp, hz, k => by
    have h := hp p (by simp)
    have l1 := intS_len p.1 h.1
    have l2 := roadS_len h
    have e : ("-" : Str).length = 1 := by decide +kernel
    have e0 : Str.empty.length = 0 := by decide +kernel
    rw [List.length_cons] at hz
    refine ⟨rfl, (by decide : (1 : Nat) < 3), (by decide : (2 : Nat) < 3), ?_⟩
    refine ⟨intS_log _ h.1, _, rfl, by show (Str.empty ++ intS p.1).length ≤ _; rw [len_app, sizeLine_eq]; omega, _, rfl, by show (Str.empty ++ intS p.1 ++ ("-" : Str)).length ≤ _; rw [len_app, len_app, sizeLine_eq]; omega, ?_⟩
    refine ⟨intS_log _ h.2, _, rfl, ?_, rfl, by rw [sizeLine_eq]; omega, ?_⟩
    · show (roadS p).length ≤ _
      rw [sizeLine_eq]
      omega
    · show lcL _ _ _ _ (rs.map roadD) (acc ++ [D.str (roadS p)]) ⟨[some t, none, none], st⟩ K
      refine line_loop rs _ (fun q m => hp q (.tail _ m)) (by rw [List.length_append]; simp only [List.length_cons, List.length_nil]; omega) ?_
      rw [List.append_assoc]
      exact k
theorem sum_len : ∀ (rs : List (Nat × Nat)), (∀ p ∈ rs, p.1 < 100 ∧ p.2 < 100) → ((rs.map roadS).map (·.length)).sum ≤ 5 * rs.length
  | [], _ => Nat.le_refl _
  | p :: rs, h => by
    have h1 := roadS_len (h p (by simp))
    have h2 := sum_len rs (fun q m => h q (.tail _ m))
    simp only [List.map_cons, List.sum_cons, List.length_cons] at h2 ⊢
    omega
theorem m_Tree_line : ∀ ds st Q E, sLine ds st Q E → b_Tree_line (spN Q E) (startE 3 ds st) := by
  rintro _ st Q E ⟨m, n, rs, ws, rfl, hn, hl, hr, q⟩
  have e : (":" : Str).length = 1 := by decide +kernel
  have e0 : Str.empty.length = 0 := by decide +kernel
  have es : (" " : Str).length = 1 := by decide +kernel
  have l1 := intS_len n hn
  have l2 := headS_len hn
  have np : ∀ rs : List (Nat × Nat), nowns (rs.map roadD) = true := fun rs => by
    induction rs with
    | nil => rfl
    | cons p rs ih => rw [List.map_cons, nowns, ih] <;> rfl
  refine ⟨(" " : Str), rfl, ?_⟩
  refine ⟨rfl, intS_log _ hn, _, rfl, by show (Str.empty ++ intS n).length ≤ _; rw [len_app, sizeLine_eq]; omega, _, rfl, by show (headS n).length ≤ _; rw [sizeLine_eq]; omega, rfl, ?_⟩
  refine ⟨rfl, np rs, np rs, ?_⟩
  refine line_loop rs [] hr (by simp; omega) ?_
  rw [List.nil_append]
  have ns : nowns (rs.map fun p => D.str (roadS p)) = true := by
    clear hl hr q
    induction rs with
    | nil => rfl
    | cons p rs ih => rw [List.map_cons, nowns, ih] <;> rfl
  refine ⟨ns, ?_⟩
  refine ⟨by rw [List.append_nil, List.length_cons, List.length_map, sizeLine_eq]; omega, ?_⟩
  refine ⟨headS n :: rs.map roadS, ?_, ?_, q⟩
  · rw [List.append_nil, List.map_cons, List.map_map] <;> rfl
  · have := sum_len rs hr
    simp only [List.map_cons, List.sum_cons, List.length_cons, List.length_map] at this ⊢
    rw [es]
    omega
end Mf.L_k92
set_option Elab.async false
set_option linter.all false
set_option maxRecDepth 100000
set_option maxHeartbeats 1000000
namespace Mf.L_k92
open PySem PySem.Spec PyProof.Rows L2 PySem.SeqAt
theorem getD_push (a : Fs) (u v i : Nat) (h : u < a.length) : (push a u v).getD i [] = if i = u then a.getD u [] ++ [v] else a.getD i [] := getD_set a u i _ h
theorem fold_nbrs : ∀ (rs : Rds) (a : Fs) (i : Nat), (∀ p ∈ rs, p.1 < p.2 ∧ p.2 < a.length) → (rs.foldl both a).getD i [] = a.getD i [] ++ nbrs i rs
  | [], a, i, _ => by simp [nbrs]
  | (u, v) :: rs, a, i, h => by
    have h1 := h (u, v) (by simp)
    dsimp only at h1
    rw [List.foldl_cons, fold_nbrs rs (both a (u, v)) i (fun p m => by rw [both_len]; exact h p (.tail _ m))]
    have e : (both a (u, v)).getD i [] = a.getD i [] ++ nb i (u, v) := by
      show (push (push a u v) v u).getD i [] = _
      rw [getD_push _ _ _ _ (by rw [push_len]; exact h1.2), getD_push _ _ _ _ (by omega), getD_push _ _ _ _ (by omega)]
      unfold nb
      dsimp only
      by_cases e1 : i = u
      · subst e1
        rw [if_neg (by omega), if_pos rfl, if_pos rfl]
      · have e1' : ¬ u = i := fun z => e1 z.symm
        by_cases e2 : i = v
        · subst e2
          rw [if_pos rfl, if_neg e1, if_neg e1', if_pos rfl]
        · have e2' : ¬ v = i := fun z => e2 z.symm
          rw [if_neg e2, if_neg e1, if_neg e1', if_neg e2', List.append_nil]
    rw [e, nbrs, List.append_assoc]
theorem near_nbrs {n : Nat} {rs : Rds} (h : ∀ p ∈ rs, p.1 < p.2 ∧ p.2 < n) (i : Nat) : List.Perm ((nearN n rs).getD i []) (nbrs i rs) := by
  have e : (joinN n rs).getD i [] = nbrs i rs := by
    unfold joinN
    rw [fold_nbrs rs _ i (by simpa using h), List.eq_nil_of_length_eq_zero (getD_empties n i), List.nil_append]
  rw [← e]
  unfold nearN
  simp only [List.getD_eq_getElem?_getD, List.getElem?_map]
  cases (joinN n rs)[i]? with
  | none => exact .refl _
  | some l => exact List.mergeSort_perm _ _
theorem up_range (n : Nat) : Up (List.range n) := List.pairwise_lt_range
theorem Good.conn' {n : Nat} {rs : Rds} (g : Good n rs) : Conn (List.range n) rs := by
  intro P c i hi j hj pi
  have hi := List.mem_range.mp hi
  have hj := List.mem_range.mp hj
  have g0 : P 0 := Classical.byContradiction fun no => g.conn (fun x => ¬ P x) no (fun p m => by have := c p m; exact ⟨fun h z => h (this.mpr z), fun h z => h (this.mp z)⟩) i hi pi
  exact g.conn P g0 c j hj
theorem Good.dec {n : Nat} {rs : Rds} (g : Good n rs) (h : 2 ≤ n) : ∃ row T, Dec (List.range n) row T ∧ List.Perm T rs := by
  have l := g.len
  refine tree_dec (n - 2) (List.range n) rs (up_range n) (by simp; omega) (by omega) (fun p m => ?_) g.conn'
  have := g.inr p m
  exact ⟨this.1, List.mem_range.mpr (by omega), List.mem_range.mpr this.2⟩
theorem asc_of {rs : Rds} (h : rs.Pairwise ltN) : Asc (rs.map castP) := by
  intro i l
  rw [List.length_map] at l
  have e := List.pairwise_iff_getElem.mp h i (i + 1) (by omega) l (by omega)
  have g : ∀ k, (hk : k < rs.length) → (rs.map castP).getD k (0, 0) = castP rs[k] := fun k hk => by
    simp [List.getD, List.getElem?_map, List.getElem?_eq_getElem hk]
  rw [g i (by omega), g (i + 1) l]
  unfold ltP castP
  simp only [ltN] at e
  dsimp only
  omega
theorem of_asc {rs : Rds} (h : Asc (rs.map castP)) : rs.Pairwise ltN := by
  rw [List.pairwise_iff_getElem]
  have g : ∀ k, (hk : k < rs.length) → (rs.map castP).getD k (0, 0) = castP rs[k] := fun k hk => by
    simp [List.getD, List.getElem?_map, List.getElem?_eq_getElem hk]
  have one : ∀ i, (hi : i + 1 < rs.length) → ltN rs[i] rs[i + 1] := fun i hi => by
    have := h i (by simpa using hi)
    rw [g i (by omega), g (i + 1) hi] at this
    unfold ltP castP at this
    dsimp only at this
    show rs[i].1 < rs[i + 1].1 ∨ (rs[i].1 = rs[i + 1].1 ∧ rs[i].2 < rs[i + 1].2)
    omega
  have all : ∀ d i, (hi : i + d + 1 < rs.length) → ltN rs[i] rs[i + d + 1] := by
    intro d
    induction d with
    | zero => exact fun i hi => one i hi
    | succ d ih =>
      intro i hi
      have a := ih i (by omega)
      have b := one (i + d + 1) (by omega)
      have e : i + (d + 1) + 1 = i + d + 1 + 1 := by omega
      simp only [e]
      unfold ltN at a b ⊢
      omega
  intro i j hi hj l
  obtain ⟨d, rfl⟩ : ∃ d, j = i + d + 1 := ⟨j - i - 1, by omega⟩
  exact all d i hj
theorem good_of {n : Nat} {T : Rds} (lo : 1 ≤ n) (hi : n ≤ 64) (len : T.length + 1 = n) (inr : ∀ p ∈ T, p.1 < p.2 ∧ p.2 < n) (nd : T.Nodup) (c : Conn (List.range n) T) : Good n (sortP T) where
  lo := lo
  hi := hi
  len := by rw [(sortP_perm T).length_eq]; exact len
  inr := fun p m => inr p ((sortP_perm T).subset m)
  asc := asc_of (sortP_lt nd)
  conn := fun P p0 cl i hi => c P (fun p m => cl p ((sortP_perm T).symm.subset m)) 0 (List.mem_range.mpr (by omega)) i (List.mem_range.mpr hi) p0
theorem Dec.good {n : Nat} {row : List Nat} {T : Rds} (d : Dec (List.range n) row T) (hi : n ≤ 64) : Good n (sortP T) := by
  have l := d.len
  rw [List.length_range] at l
  refine good_of (by omega) hi (by omega) (fun p m => ?_) d.nd d.conn
  have := d.inr p m
  exact ⟨this.1, List.mem_range.mp this.2.2⟩
theorem Good.back {n : Nat} {rs T : Rds} (g : Good n rs) (p : List.Perm T rs) : sortP T = rs := sortP_eq p (of_asc g.asc)
theorem find_least {P : Nat → Bool} {e : Nat} {S : List Nat} (u : Up S) (m : e ∈ S) (p : P e = true) (l : ∀ h ∈ S, P h = true → e ≤ h) : S.find? P = some e := by
  obtain ⟨e', a, b, c, d⟩ := least u ⟨e, m, p⟩
  have h1 := l e' b c
  have h2 := d e m p
  have : e' = e := by omega
  rw [a, this]
structure NI (n : Nat) (near : Fs) (S row : List Nat) (T : Rds) : Prop where
  len : near.length = n
  sub : ∀ h ∈ S, h < n
  dec : Dec S row T
  ok : ∀ h, h < n → List.Perm (near.getD h []) (nbrs h T)
structure NStep (n : Nat) (near : Fs) (e g : Nat) : Prop where
  fnd : (List.range n).find? (fun h => decide ((near.getD h []).length = 1)) = some e
  row : near.getD e [] = [g]
  en : e < n
  gn : g < n
  ne : e ≠ g
  mem : e ∈ near.getD g []
def nxt (near : Fs) (e g : Nat) : Fs := (near.set g ((near.getD g []).erase e)).set e []
theorem NI.step {n : Nat} {near : Fs} {S row : List Nat} {g : Nat} {T' : Rds} (w : NI n near S (g :: row) T') : ∃ e T, NStep n near e g ∧ NI n (nxt near e g) (S.erase e) row T := by
  have hl := w.len
  generalize hr : g :: row = gr at w
  cases w with
  | mk len sub d ok =>
  cases d with
  | two h => cases hr
  | @step _ row' T e g' u me ne le mg r =>
    cases hr
    have d : Dec S (g :: row) (mm e g :: T) := .step u me ne le mg r
    have eg := Dec.neq ne
    have en := sub e me
    have gn := sub g mg
    have nd := up_nodup u
    have off : nbrs e T = [] := List.eq_nil_of_length_eq_zero (by rw [r.deg e, if_neg fun z => (nd.mem_erase_iff.mp z).1 rfl])
    have pe := ok e en
    rw [nbrs, nb_mm eg, if_pos rfl, off] at pe
    have re : near.getD e [] = [g] := List.perm_singleton.mp pe
    have pg := ok g gn
    rw [nbrs, nb_mm eg, if_neg fun z => eg z.symm, if_pos rfl] at pg
    have mem : e ∈ near.getD g [] := pg.symm.subset (by simp)
    refine ⟨e, T, ⟨find_least (up_range n) (List.mem_range.mpr en) (by rw [re]; rfl) fun h mh p => ?_, re, en, gn, eg, mem⟩, ?_, fun h m => sub h (List.mem_of_mem_erase m), r, fun h hh => ?_⟩
    · have hn := List.mem_range.mp mh
      have p1 : (near.getD h []).length = 1 := by simpa using p
      rw [(ok h hn).length_eq, d.deg h] at p1
      by_cases hs : h ∈ S
      · rw [if_pos hs] at p1
        exact le h hs (List.count_eq_zero.mp (by omega))
      · rw [if_neg hs] at p1
        omega
    · unfold nxt
      rw [List.length_set, List.length_set]
      exact len
    · unfold nxt
      rw [getD_set _ _ _ _ (by rw [List.length_set]; omega), getD_set _ _ _ _ (by omega)]
      by_cases h1 : h = e
      · subst h1
        rw [if_pos rfl, off]
      · rw [if_neg h1]
        by_cases h2 : h = g
        · subst h2
          rw [if_pos rfl]
          have := pg.erase e
          simpa using this
        · rw [if_neg h2]
          have := ok h hh
          rw [nbrs, nb_mm eg, if_neg h1, if_neg h2] at this
          exact this
theorem ni_start {n : Nat} {row : List Nat} {R T : Rds} (inr : ∀ p ∈ R, p.1 < p.2 ∧ p.2 < n) (d : Dec (List.range n) row T) (p : List.Perm T R) : NI n (nearN n R) (List.range n) row T :=
  ⟨near_len n R, fun h m => List.mem_range.mp m, d, fun h _ => (near_nbrs inr h).trans (nbrs_perm p h).symm⟩
end Mf.L_k92
set_option Elab.async false
set_option linter.all false
set_option maxRecDepth 100000
set_option maxHeartbeats 1000000
namespace Mf.L_k92
open PySem PySem.Spec PyProof.Rows L2 PySem.SeqAt
theorem eq_int (a b : Int) : eqD (.int a) (.int b) = decide (a = b) := by
  have : eqD (.int a) (.int b) = (a == b) := by simp [eqD, toPy, PyData.eqv]
  rw [this] <;> rfl
theorem ix_adj {a : Fs} {i : Nat} (h : i < a.length) : ixD (adjD a) (natD i) = some (rowD (a.getD i [])) := by
  have e := atI_in (xs := a.map rowD) (i := (i : Int)) (z := rowD []) (by omega) (by simpa using h)
  show atI (a.map rowD) (i : Int) = _
  rw [e]
  simp [List.getD, List.getElem?_map, List.getElem?_eq_getElem h]
theorem it_adj {a : Fs} {u : Nat} (hu : u < a.length) : itD (adjD a) (natD u) = some (rowD (a.getD u []), fun d' => .lst .own ((a.map rowD).set u d')) := by
  have e1 : ixN (a.map rowD).length (u : Int) = some u := by
    unfold ixN
    simp [hu]
  show (ixN (a.map rowD).length (u : Int)).bind _ = _
  rw [e1]
  simp [List.getElem?_map, List.getElem?_eq_getElem hu]
theorem erase_cast (v : Nat) : ∀ l : List Nat, (l.map fun k : Nat => (k : Int)).erase (v : Int) = (l.erase v).map fun k : Nat => (k : Int)
  | [] => rfl
  | k :: l => by
    rw [List.map_cons, List.erase_cons, List.erase_cons, erase_cast v l]
    by_cases h : k = v
    · subst h; simp
    · have h' : ¬ (k : Int) = (v : Int) := by omega
      simp [h, h']
theorem nat_ints (l : List Nat) : l.map natD = (l.map fun k : Nat => (k : Int)).map D.int := by
  rw [List.map_map] <;> rfl
theorem set_rows (a : Fs) (u : Nat) (l : List Nat) : D.lst .own ((a.map rowD).set u (rowD l)) = adjD (a.set u l) := by
  rw [← List.map_set] <;> rfl
theorem rem_at {a : Fs} {u v i k : Nat} {gj : PF} {env : En} {Q : D → En → Prop} {E : EK} (hi : getS env i = some (adjD a)) (hj : ∀ Q : D → Prop, Q (natD u) → gj env Q) (hk : getS env k = some (natD v)) (hu : u < a.length) (hv : v ∈ a.getD u [])
    (q : Q .non (setS env i (adjD (a.set u ((a.getD u []).erase v))))) : dMth "list" mRemove (qIx (qVar i) gj) (paCons (pVar k) paNil) env Q E := by
  unfold dMth qIx qVar pVar paCons paNil
  rw [hi]
  simp only [onS]
  refine hj _ ?_
  rw [it_adj hu]
  simp only [onO]
  rw [hk]
  refine ⟨rfl, rfl, ?_⟩
  refine ⟨(a.getD u []).map fun k : Nat => (k : Int), nat_ints _, List.mem_map.mpr ⟨v, hv, rfl⟩, ?_⟩
  rw [erase_cast, ← nat_ints]
  show Q .non (setS env i (.lst .own ((a.map rowD).set u (rowD ((a.getD u []).erase v)))))
  rw [set_rows]
  exact q
theorem clr_at {a : Fs} {u i : Nat} {gj : PF} {env : En} {Q : D → En → Prop} {E : EK} (hi : getS env i = some (adjD a)) (hj : ∀ Q : D → Prop, Q (natD u) → gj env Q) (hu : u < a.length)
    (q : Q .non (setS env i (adjD (a.set u [])))) : dMth0 "list" mClear (qIx (qVar i) gj) env Q E := by
  unfold dMth0 qIx qVar
  rw [hi]
  simp only [onS]
  refine hj _ ?_
  rw [it_adj hu]
  simp only [onO]
  refine ⟨rfl, ?_⟩
  show Q .non (setS env i (.lst .own ((a.map rowD).set u (rowD []))))
  rw [set_rows]
  exact q
theorem pop1_at {a : Fs} {u i g : Nat} {gj : PF} {env : En} {Q : D → En → Prop} {E : EK} (hi : getS env i = some (adjD a)) (hj : ∀ Q : D → Prop, Q (natD u) → gj env Q) (hu : u < a.length) (hg : a.getD u [] = [g])
    (q : Q (natD g) (setS env i (adjD (a.set u [])))) : dMth0 "list" mPop (qIx (qVar i) gj) env Q E := by
  unfold dMth0 qIx qVar
  rw [hi]
  simp only [onS]
  refine hj _ ?_
  rw [it_adj hu, hg]
  simp only [onO]
  refine ⟨rfl, ?_⟩
  show Q (natD g) (setS env i (.lst .own ((a.map rowD).set u (rowD []))))
  rw [set_rows]
  exact q
theorem put_at {l : List Nat} {v i : Nat} {gv : PF} {env : En} {Q : D → En → Prop} {E : EK} (hi : getS env i = some (rowD l)) (hv : ∀ Q : D → Prop, Q (natD v) → gv env Q) (hz : l.length < 4000)
    (q : Q .non (setS env i (rowD (l ++ [v])))) : dMth "list" mAppend (qVar i) (paCons gv paNil) env Q E := by
  unfold dMth qVar paCons paNil
  rw [hi]
  simp only [onS]
  refine ⟨rfl, hv _ ⟨rfl, ?_⟩⟩
  show _ ∧ _
  refine ⟨by rw [sizeLine_eq, List.length_map]; omega, ?_⟩
  have e2 : D.lst .own (l.map natD ++ [natD v]) = rowD (l ++ [v]) := by simp [rowD]
  show Q .non (setS env i (.lst .own (l.map natD ++ [natD v])))
  rw [e2]
  exact q
theorem rng0 (n : Nat) : rng 0 (n : Int) = (List.range n).map natD := by
  unfold rng
  have : ((n : Int) - 0).toNat = n := by omega
  rw [this]
  refine List.map_congr_left fun k _ => ?_
  show D.int (0 + (k : Int)) = _
  rw [Int.zero_add]
theorem filt_nat {p : D → Bool} {P : Nat → Bool} : ∀ {l : List Nat}, (∀ k ∈ l, p (natD k) = P k) → (l.map natD).filter p = (l.filter P).map natD
  | [], _ => rfl
  | k :: l, h => by
    rw [List.map_cons, List.filter_cons, List.filter_cons, h k (by simp), filt_nat fun k m => h k (.tail _ m)]
    split <;> rfl
theorem filt_head {P : Nat → Bool} {e : Nat} {l : List Nat} (h : l.find? P = some e) : ∃ r, l.filter P = e :: r := by
  have := List.head?_filter (p := P) (l := l)
  rw [h] at this
  cases hf : l.filter P with
  | nil => rw [hf] at this; cases this
  | cons x r => rw [hf] at this; cases this; exact ⟨r, rfl⟩
theorem ix_zero {m : Mk} {e : Nat} {r : List Nat} : ixD (.lst m ((e :: r).map natD)) (.int 0) = some (natD e) := by
  show atI ((e :: r).map natD) 0 = _
  rw [atI_in (z := .non) (by omega) (by simp)] <;> rfl
abbrev rB : SF := sSeq (sSetF 4 (dIx (dLc [6] (iR1 (aCons (pe (pFld "Tree" "houses" (pVar 0))) (aNil))) (tName 6) (bV (pe (pOp oEq (pCall cLen (paCons (pIx (pVar 1) (pVar 6)) (paNil))) (pC (.int 1))))) (pe (pVar 6))) (pe (pC (.int 0)))))
      (sSeq (sExpr (dMth "list" mAppend (qVar 2) (paCons (pIx (pIx (pVar 1) (pVar 4)) (pC (.int 0))) (paNil))))
      (sSeq (sExpr (dMth "list" mRemove (qIx (qVar 1) (pIx (pIx (pVar 1) (pVar 4)) (pC (.int 0)))) (paCons (pVar 4) (paNil))))
      (sExpr (dMth0 "list" mClear (qIx (qVar 1) (pVar 4))))))
abbrev trD (m : Mk) (n : Nat) (rs : Rds) (ws : List Fs) : D := .ins m "Tree" (treeF n rs ws)
theorem row_loop {N : DN} {st : Sto} {m : Mk} {n : Nat} {rs : Rds} {ws : List Fs} (hn : n < 100) {K : List Nat → Prop} (h : ∀ near found c3 c4, K found → N.nx ⟨[some (trD m n rs ws), some (adjD near), some (rowD found), c3, c4, none, none], st⟩) :
    ∀ (row : List Nat) (ds : List D) (near : Fs) (S : List Nat) (T : Rds) (found : List Nat) (c3 c4 : Option D), ds.length = row.length → NI n near S row T → found.length + row.length < 1000 → K (found ++ row) →
    forL (tName 3) rB N ds ⟨[some (trD m n rs ws), some (adjD near), some (rowD found), c3, c4, none, none], st⟩
  | [], [], near, S, T, found, c3, c4, _, w, _, k => h near found c3 c4 (by rw [List.append_nil] at k; exact k)
  | g :: row, d :: ds, near, S, T, found, c3, c4, hl, w, hz, k => by
    have nl := w.len
    obtain ⟨e, T', s, w'⟩ := w.step
    rw [List.length_cons] at hz
    refine ⟨(by decide : (3 : Nat) < 7), ?_⟩
    refine ⟨rfl, rfl, ⟨by omega, by omega⟩, ?_⟩
    show lcL [6] (tName 6) (bV (pe (pOp oEq (pCall cLen (paCons (pIx (pVar 1) (pVar 6)) (paNil))) (pC (.int 1))))) (pe (pVar 6)) (rng 0 (n : Int)) [] ⟨[some (trD m n rs ws), some (adjD near), some (rowD found), some d, c4, none, none], st⟩ _
    rw [rng0]
    refine lcL_pure (p := fun d => match d with | .int i => decide ((near.getD i.toNat []).length = 1) | _ => false) (f := fun d => d) (by decide : (6 : Nat) < 7) rfl _ [] (fun d m Qb q => ?_) (fun d m _ Qd q => by obtain ⟨i, _, rfl⟩ := List.mem_map.mp m; exact ⟨rfl, q⟩) (by rw [List.length_map, List.length_range, sizeLine_eq]; simp; omega) ?_
    · obtain ⟨i, hi, rfl⟩ := List.mem_map.mp m
      have hi := List.mem_range.mp hi
      show onO (ixD (adjD near) (natD i)) _
      rw [ix_adj (by omega)]
      refine ⟨rfl, rfl, rfl, ?_⟩
      show onB (.bl (eqD (.int ((near.getD i []).map natD).length) (.int 1))) _
      rw [eq_int, List.length_map]
      have e1 : decide (((near.getD i []).length : Int) = 1) = decide ((near.getD i []).length = 1) := decide_eq_decide.mpr (by omega)
      rw [e1]
      exact q
    · rw [List.nil_append, List.map_id'' (fun _ => rfl), filt_nat (P := fun h => decide ((near.getD h []).length = 1)) fun k _ => rfl]
      obtain ⟨r, er⟩ := filt_head s.fnd
      rw [er]
      refine ⟨rfl, ?_⟩
      show onO (ixD (.lst .frz (fzs ((e :: r).map natD))) (.int 0)) _
      rw [fzs_nat, ix_zero]
      refine ⟨(by decide : (4 : Nat) < 7), ?_⟩
      show dMth "list" mAppend (qVar 2) (paCons (pIx (pIx (pVar 1) (pVar 4)) (pC (.int 0))) (paNil)) ⟨[some (trD m n rs ws), some (adjD near), some (rowD found), some d, some (natD e), none, none], st⟩ _ N.ex
      have hg : ∀ (near : Fs) c2 (Q : D → Prop), near.length = n → near.getD e [] = [g] → Q (natD g) → pIx (pIx (pVar 1) (pVar 4)) (pC (.int 0)) ⟨[some (trD m n rs ws), some (adjD near), c2, some d, some (natD e), none, none], st⟩ Q := fun near c2 Q l re q => by
        show onO (ixD (adjD near) (natD e)) _
        rw [ix_adj (by have := s.en; omega), re]
        exact q
      refine put_at (v := g) rfl (fun Q q => hg near _ Q nl s.row q) (by omega) ?_
      show dMth "list" mRemove (qIx (qVar 1) (pIx (pIx (pVar 1) (pVar 4)) (pC (.int 0)))) (paCons (pVar 4) (paNil)) ⟨[some (trD m n rs ws), some (adjD near), some (rowD (found ++ [g])), some d, some (natD e), none, none], st⟩ _ N.ex
      refine rem_at (u := g) (v := e) rfl (fun Q q => hg near _ Q nl s.row q) rfl (by have := s.gn; omega) s.mem ?_
      show dMth0 "list" mClear (qIx (qVar 1) (pVar 4)) ⟨[some (trD m n rs ws), some (adjD (near.set g ((near.getD g []).erase e))), some (rowD (found ++ [g])), some d, some (natD e), none, none], st⟩ _ N.ex
      refine clr_at (u := e) rfl (fun Q q => q) (by rw [List.length_set]; have := s.en; omega) ?_
      exact row_loop hn h row ds (nxt near e g) _ T' (found ++ [g]) _ _ (by simpa using hl) w' (by rw [List.length_append]; simp only [List.length_cons, List.length_nil]; omega) (by rw [List.append_assoc]; exact k)
def sRowOf : DSp := fun ds st Q E => ∃ (m : Mk) (n : Nat) (rs : Rds) (ws : List Fs), ds = [trD m n rs ws] ∧ Good n rs ∧ (n = 1 → E ⟨"InvalidHouses", [("given", natD 1)]⟩ st) ∧ (2 ≤ n → ∃ row T, Dec (List.range n) row T ∧ List.Perm T rs ∧ Q (rowD row) st)
theorem m_row_of : ∀ ds st Q E, sRowOf ds st Q E → b_row_of (spN Q E) (startE 7 ds st) := by
  rintro _ st Q E ⟨m, n, rs, ws, rfl, g, q1, q2⟩
  have lo := g.lo
  have hi := g.hi
  have gl := g.len
  refine ⟨rfl, cmp_int _ _, rfl, ?_⟩
  show onB (.bl (ltD (natD n) (.int 2))) _
  rw [lt_int]
  by_cases h1 : n = 1
  · subst h1
    exact ⟨rfl, rfl, rfl, q1 rfl⟩
  · have e : decide ((n : Int) < 2) = false := by simp; omega
    rw [e]
    obtain ⟨row, T, d, p, q⟩ := q2 (by omega)
    have dl := d.len.1
    rw [List.length_range] at dl
    refine ⟨rfl, nowns_tups _, nowns_tups _, ?_⟩
    show lcL [5] (tName 5) bYes (nCall cList (paCons (pVar 5) paNil)) ((nearN n rs).map tupN) [] ⟨[some (trD m n rs ws), none, none, none, none, none, none], st⟩ _
    refine lcL_pure (p := fun _ => true) (f := fun d => match d with | .tup xs => .lst .own xs | _ => .non) (by decide : (5 : Nat) < 7) rfl _ [] (fun d m Qb q => q) (fun d m _ Qd q => ?_) (by rw [List.length_map, near_len, sizeLine_eq]; simp; omega) ?_
    · obtain ⟨l, hl, rfl⟩ := List.mem_map.mp m
      exact ⟨nowns_nat l, q⟩
    · rw [List.nil_append, List.filter_eq_self.mpr fun _ _ => rfl, List.map_map]
      refine ⟨(by decide : (1 : Nat) < 7), ?_⟩
      refine ⟨Nat.zero_le _, (by decide : (2 : Nat) < 7), ?_⟩
      refine ⟨rfl, trivial, ⟨by omega, by omega⟩, ?_⟩
      have e2 : (n : Int) - 2 = ((n - 2 : Nat) : Int) := by omega
      refine row_loop (K := fun f => f = row) (by omega) (fun near found c3 c4 ef => by subst ef; exact q) row _ (nearN n rs) (List.range n) T [] none none (by rw [rng_length]; omega) (ni_start (fun p m => g.inr p m) d p) (by simp; omega) rfl
end Mf.L_k92
set_option Elab.async false
set_option linter.all false
set_option maxRecDepth 100000
set_option maxHeartbeats 1000000
namespace Mf.L_k92
open PySem PySem.Spec PyProof.Rows L2 PySem.SeqAt
theorem idx_find {P : Nat → Bool} {e n : Nat} (h : (List.range n).find? P = some e) (c : Nat → Int) (hc : ∀ k, c k = 1 ↔ P k = true) : ((List.range n).map c).idxOf 1 = e ∧ (1 : Int) ∈ (List.range n).map c := by
  obtain ⟨pe, as, bs, e1, nb⟩ := List.find?_eq_some_iff_append.mp h
  have lt : e < n := List.mem_range.mp (by rw [e1]; simp)
  have ae : as.length = e := by
    have e2 : (List.range n)[as.length]? = some e := by rw [e1]; simp
    have hl : as.length < n := by
      have := congrArg List.length e1
      simp at this
      omega
    rw [List.getElem?_range hl] at e2
    exact Option.some.inj e2
  have ni : (1 : Int) ∉ as.map c := fun m => by
    obtain ⟨k, mk, ek⟩ := List.mem_map.mp m
    have := nb k mk
    rw [(hc k).mp ek] at this
    cases this
  refine ⟨?_, ?_⟩
  · rw [e1, List.map_append, List.idxOf_append, if_neg ni, List.map_cons, (hc e).mpr pe, List.idxOf_cons_self, List.length_map]
    omega
  · exact List.mem_map.mpr ⟨e, List.mem_range.mpr lt, (hc e).mpr pe⟩
abbrev lrB : SF := sSeq (sSetF 5 (dBor (dIndex (dLc [7] (iSeq (dVar 2)) (tName 7) (bYes) (nCall cLen (paCons (pVar 7) (paNil)))) (pC (.int 1)))))
      (sSeq (sSetF 6 (dMth0 "list" mPop (qIx (qVar 2) (pVar 5))))
      (sSeq (sExpr (dMth "list" mRemove (qIx (qVar 2) (pVar 6)) (paCons (pVar 5) (paNil))))
      (sExpr (dMth "list" mAppend (qVar 3) (paCons (pVar 6) (paNil))))))
theorem adj_self (near : Fs) : near = (List.range near.length).map fun h => near.getD h [] := by
  refine List.ext_getElem (by simp) fun i h1 h2 => ?_
  simp [List.getElem?_eq_getElem h1]
theorem lrow_loop {N : DN} {st : Sto} {x : D} {n : Nat} (hn : n < 100) (hx : nown x = true) {K : List Nat → Prop} (h : ∀ near found c4 c5 c6, K found → N.nx ⟨[some (natD n), some x, some (adjD near), some (rowD found), c4, c5, c6, none], st⟩) :
    ∀ (row : List Nat) (ds : List D) (near : Fs) (S : List Nat) (T : Rds) (found : List Nat) (c4 c5 c6 : Option D), ds.length = row.length → NI n near S row T → found.length + row.length < 1000 → K (found ++ row) →
    forL (tName 4) lrB N ds ⟨[some (natD n), some x, some (adjD near), some (rowD found), c4, c5, c6, none], st⟩
  | [], [], near, S, T, found, c4, c5, c6, _, w, _, k => h near found c4 c5 c6 (by rw [List.append_nil] at k; exact k)
  | g :: row, d :: ds, near, S, T, found, c4, c5, c6, hl, w, hz, k => by
    have nl := w.len
    obtain ⟨e, T', s, w'⟩ := w.step
    rw [List.length_cons] at hz
    have en := s.en
    have gn := s.gn
    refine ⟨(by decide : (4 : Nat) < 8), ?_⟩
    refine ⟨rfl, ?_⟩
    show lcL [7] (tName 7) bYes (nCall cLen (paCons (pVar 7) (paNil))) (fzs (near.map rowD)) [] ⟨[some (natD n), some (fz x), some (fz (fz (adjD near))), some (fz (rowD found)), some (fz d), c5.map fz, c6.map fz, none], []⟩ _
    rw [fzs_rows]
    refine lcL_pure (p := fun _ => true) (f := fun d => match d with | .lst _ xs => .int (xs.length : Nat) | _ => .non) (by decide : (7 : Nat) < 8) rfl _ [] (fun d m Qb q => q) (fun d m _ Qd q => ?_) (by rw [List.length_map, sizeLine_eq]; simp; omega) ?_
    · obtain ⟨l, hl, rfl⟩ := List.mem_map.mp m
      exact q
    · rw [List.nil_append, List.filter_eq_self.mpr fun _ _ => rfl, List.map_map]
      have F := idx_find s.fnd (fun h => ((near.getD h []).length : Int)) fun k => by rw [decide_eq_true_eq]; omega
      refine ⟨(List.range n).map fun h => ((near.getD h []).length : Int), ?_, F.2, ?_⟩
      · conv => lhs; rw [adj_self near]
        rw [nl, List.map_map, List.map_map]
        refine List.map_congr_left fun h _ => ?_
        show D.int (((near.getD h []).map natD).length : Nat) = _
        rw [List.length_map] <;> rfl
      · rw [F.1]
        refine ⟨rfl, (by decide : (5 : Nat) < 8), ?_⟩
        show sSetF 6 (dMth0 "list" mPop (qIx (qVar 2) (pVar 5))) _ ⟨[some (natD n), some x, some (adjD near), some (rowD found), some d, some (natD e), c6, none], st⟩
        unfold sSetF
        refine pop1_at (u := e) rfl (fun Q q => q) (by omega) s.row ?_
        refine ⟨(by decide : (6 : Nat) < 8), ?_⟩
        show dMth "list" mRemove (qIx (qVar 2) (pVar 6)) (paCons (pVar 5) (paNil)) ⟨[some (natD n), some x, some (adjD (near.set e [])), some (rowD found), some d, some (natD e), some (natD g), none], st⟩ _ N.ex
        have same : (near.set e []).getD g [] = near.getD g [] := by
          rw [getD_set _ _ _ _ (by omega), if_neg fun z => s.ne z.symm]
        refine rem_at (u := g) (v := e) rfl (fun Q q => q) rfl (by rw [List.length_set]; omega) (by rw [same]; exact s.mem) ?_
        rw [same]
        show dMth "list" mAppend (qVar 3) (paCons (pVar 6) (paNil)) ⟨[some (natD n), some x, some (adjD ((near.set e []).set g ((near.getD g []).erase e))), some (rowD found), some d, some (natD e), some (natD g), none], st⟩ _ N.ex
        refine put_at (v := g) rfl (fun Q q => q) (by omega) ?_
        rw [List.set_comm _ _ s.ne]
        exact lrow_loop hn hx h row ds (nxt near e g) _ T' (found ++ [g]) _ _ _ (by simpa using hl) w' (by rw [List.length_append]; simp only [List.length_cons, List.length_nil]; omega) (by rw [List.append_assoc]; exact k)
def sLawRow : DSp := fun ds st Q _ => ∃ (n : Nat) (x : D) (rs : Rds) (row : List Nat) (T : Rds), ds = [natD n, x] ∧ seqD x (rs.map roadD) ∧ n ≤ 64 ∧ (∀ p ∈ rs, p.1 < p.2 ∧ p.2 < n) ∧ rs.length < 100 ∧ Dec (List.range n) row T ∧ List.Perm T rs ∧ Q (rowD row) st
theorem m_law_row : ∀ ds st Q E, sLawRow ds st Q E → b_law_row sNear (spN Q E) (startE 8 ds st) := by
  rintro _ st Q E ⟨n, x, rs, row, T, rfl, hx, hn, inr, hl, d, p, q⟩
  have hz := nown_fz hx
  have hs : seqD (fz x) (rs.map roadD) := by
    rw [← cast_map] at hx ⊢
    exact seq_fz hx
  have dl := d.len.1
  rw [List.length_range] at dl
  refine ⟨rfl, hz, n, fz x, rs, rfl, hs, hz, by omega, hl, fun p m => ⟨by have := inr p m; omega, (inr p m).2⟩, ?_⟩
  have nl := near_len n rs
  refine ⟨rfl, ?_⟩
  show lcL [7] (tName 7) bYes (nCall cList (paCons (pVar 7) paNil)) (fzs ((nearN n rs).map rowD)) [] ⟨[some (natD n), some (fz x), none, none, none, none, none, none], st⟩ _
  rw [fzs_rows]
  refine lcL_pure (p := fun _ => true) (f := fun d => match d with | .lst _ xs => .lst .own xs | _ => .non) (by decide : (7 : Nat) < 8) rfl _ [] (fun d m Qb q => q) (fun d m _ Qd q => ?_) (by rw [List.length_map, nl, sizeLine_eq]; simp; omega) ?_
  · obtain ⟨l, hl, rfl⟩ := List.mem_map.mp m
    exact ⟨nowns_nat l, q⟩
  · rw [List.nil_append, List.filter_eq_self.mpr fun _ _ => rfl, List.map_map]
    refine ⟨Nat.zero_le _, (by decide : (2 : Nat) < 8), (by decide : (3 : Nat) < 8), ?_⟩
    refine ⟨trivial, ⟨by omega, by omega⟩, ?_⟩
    refine lrow_loop (K := fun f => f = row) (by omega) hz (fun near found c4 c5 c6 ef => by subst ef; exact q) row _ (nearN n rs) (List.range n) T [] none none none (by rw [rng_length]; omega) (ni_start inr d p) (by simp; omega) rfl
end Mf.L_k92
set_option Elab.async false
set_option linter.all false
set_option maxRecDepth 100000
set_option maxHeartbeats 1000000
namespace Mf.L_k92
open PySem PySem.Spec PyProof.Rows L2 PySem.SeqAt
/-! tree_of_row -/
abbrev cntD (l : List Int) : D := .lst .own (l.map D.int)
/-- what is left of each house -/
def lefts (n : Nat) (S row : List Nat) : List Int := (List.range n).map fun h => if h ∈ S then (row.count h : Int) + 1 else 0
theorem lefts_len (n : Nat) (S row : List Nat) : (lefts n S row).length = n := by simp [lefts]
theorem lefts_at {n : Nat} {S row : List Nat} {h : Nat} (hn : h < n) : (lefts n S row).getD h 0 = if h ∈ S then (row.count h : Int) + 1 else 0 := by
  unfold lefts
  rw [List.getD_eq_getElem?_getD, List.getElem?_map, List.getElem?_range hn]
  rfl
theorem lefts_step {n : Nat} {S row : List Nat} {e g : Nat} (nd : S.Nodup) (mg : g ∈ S) (ne : e ∉ g :: row) : ((lefts n S (g :: row)).set e 0).set g ((lefts n S (g :: row)).getD g 0 - 1) = lefts n (S.erase e) row := by
  refine List.ext_getElem (by simp [lefts]) fun i h1 h2 => ?_
  have hi : i < n := by simpa [lefts] using h2
  have eg : e ≠ g := Dec.neq ne
  have er : e ∉ row := fun m => ne (.tail _ m)
  have l1 : (lefts n S (g :: row))[i]'(by simpa [lefts] using hi) = if i ∈ S then ((g :: row).count i : Int) + 1 else 0 := by simp [lefts]
  have l2 : (lefts n (S.erase e) row)[i]'h2 = if i ∈ S.erase e then (row.count i : Int) + 1 else 0 := by simp [lefts]
  rw [l2, List.getElem_set, List.getElem_set]
  simp only [nd.mem_erase_iff]
  by_cases a : g = i
  · subst a
    rw [if_pos rfl, lefts_at hi, if_pos mg, if_pos ⟨fun z => eg z.symm, mg⟩]
    simp
  · rw [if_neg a]
    by_cases b : e = i
    · subst b
      rw [if_pos rfl, if_neg fun z => z.1 rfl]
    · rw [if_neg b, l1]
      by_cases c : i ∈ S
      · rw [if_pos c, if_pos ⟨fun z => b z.symm, c⟩]
        simp [List.count_cons, a]
      · rw [if_neg c, if_neg fun z => c z.2]
theorem lefts_find {n : Nat} {S row : List Nat} {e : Nat} (sub : ∀ h ∈ S, h < n) (me : e ∈ S) (ne : e ∉ row) (le : ∀ h ∈ S, h ∉ row → e ≤ h) : (lefts n S row).idxOf 1 = e ∧ (1 : Int) ∈ lefts n S row := by
  refine idx_find (P := fun h => decide (h ∈ S ∧ h ∉ row)) (find_least (up_range n) (List.mem_range.mpr (sub e me)) (by simp [me, ne]) fun h _ p => ?_) _ fun k => ?_
  · have := of_decide_eq_true p
    exact le h this.1 this.2
  · rw [decide_eq_true_eq]
    by_cases c : k ∈ S
    · rw [if_pos c]
      constructor
      · intro z; exact ⟨c, List.count_eq_zero.mp (by omega)⟩
      · intro z; rw [List.count_eq_zero.mpr z.2]; rfl
    · rw [if_neg c]
      constructor
      · intro z; cases z
      · intro z; exact absurd z.1 c
theorem ix_int {m : Mk} {l : List Int} {i : Nat} (h : i < l.length) : ixD (.lst m (l.map D.int)) (natD i) = some (.int (l.getD i 0)) := by
  have e := atI_in (xs := l.map D.int) (i := (i : Int)) (z := .int 0) (by omega) (by simpa using h)
  show atI (l.map D.int) (i : Int) = _
  rw [e]
  simp [List.getD, List.getElem?_map, List.getElem?_eq_getElem h]
theorem set_int {l : List Int} {i : Nat} {v : Int} (h : i < l.length) : setD (cntD l) (natD i) (.int v) = some (cntD (l.set i v)) := by
  have e0 : ixN (l.map D.int).length (i : Int) = some i := by
    unfold ixN
    simp [h]
  show (ixN (l.map D.int).length (i : Int)).map _ = _
  rw [e0]
  simp [List.map_set]
def roadsD (T : Rds) : D := .lst .own (T.map roadD)
theorem road_mm (e g : Nat) : D.tup [.int (min (e : Int) g), .int (max (e : Int) g)] = roadD (mm e g) := by
  unfold roadD mm pairD
  dsimp only
  congr 2
  · congr 1; omega
  · congr 2; omega
abbrev tB : SF := sSeq (sSetF 5 (pe (pIndex (pVar 2) (pC (.int 1)))))
      (sSeq (sExpr (dMth "list" mAppend (qVar 3) (paCons (pTup (paCons (pCall cMin2 (paCons (pVar 5) (paCons (pVar 4) (paNil)))) (paCons (pCall cMax2 (paCons (pVar 5) (paCons (pVar 4) (paNil)))) (paNil)))) (paNil))))
      (sAsg (dTup (aCons (pe (pC (.int 0))) (aCons (nOp oSub (pIx (pVar 2) (pVar 4)) (pC (.int 1))) (aNil)))) (tTupT 2 (tsCons (tSub (qVar 2) (pVar 5)) (tsCons (tSub (qVar 2) (pVar 4)) (tsNil))))))
theorem tree_loop {N : DN} {st : Sto} {n : Nat} {x : D} (hn : n < 100) {T0 : Rds}
    (h : ∀ (S : List Nat) (T : Rds) roads c4 c5, Dec S [] T → (∀ h ∈ S, h < n) → roads ++ T = T0 → N.nx ⟨[some (natD n), some x, some (cntD (lefts n S [])), some (roadsD roads), c4, c5, none, none, none], st⟩) :
    ∀ (row : List Nat) (S : List Nat) (T : Rds) (roads : Rds) (c4 c5 : Option D), Dec S row T → (∀ h ∈ S, h < n) → roads ++ T = T0 → roads.length + row.length < 1000 →
    forL (tName 4) tB N (row.map natD) ⟨[some (natD n), some x, some (cntD (lefts n S row)), some (roadsD roads), c4, c5, none, none, none], st⟩
  | [], S, T, roads, c4, c5, d, sub, eT, _ => h S T roads c4 c5 d sub eT
  | g :: row, S, T, roads, c4, c5, d, sub, eT, hz => by
    generalize hr : g :: row = gr at d
    cases d with
    | two => cases hr
    | @step _ row' T' e g' u me ne le mg r =>
    cases hr
    have en := sub e me
    have gn := sub g mg
    have ll := lefts_len n S (g :: row)
    have F := lefts_find sub me ne le
    rw [List.length_cons] at hz
    refine ⟨(by decide : (4 : Nat) < 9), ?_⟩
    refine ⟨lefts n S (g :: row), rfl, F.2, rfl, ?_⟩
    rw [F.1]
    refine ⟨(by decide : (5 : Nat) < 9), ?_⟩
    show dMth "list" mAppend (qVar 3) (paCons (pTup (paCons (pCall cMin2 (paCons (pVar 5) (paCons (pVar 4) (paNil)))) (paCons (pCall cMax2 (paCons (pVar 5) (paCons (pVar 4) (paNil)))) (paNil)))) (paNil)) ⟨[some (natD n), some x, some (cntD (lefts n S (g :: row))), some (roadsD roads), some (natD g), some (natD e), none, none, none], st⟩ _ N.ex
    refine ⟨rfl, (by rw [sizeLine_eq]; simp), rfl, ?_⟩
    refine ⟨by rw [List.length_map, sizeLine_eq]; omega, ?_⟩
    have e2 : D.lst .own (roads.map roadD ++ [D.tup [.int (min (e : Int) g), .int (max (e : Int) g)]]) = roadsD (roads ++ [mm e g]) := by
      rw [road_mm]
      simp [roadsD]
    show sAsg (dTup (aCons (pe (pC (.int 0))) (aCons (nOp oSub (pIx (pVar 2) (pVar 4)) (pC (.int 1))) (aNil)))) (tTupT 2 (tsCons (tSub (qVar 2) (pVar 5)) (tsCons (tSub (qVar 2) (pVar 4)) (tsNil)))) _ ⟨[some (natD n), some x, some (cntD (lefts n S (g :: row))), some (D.lst .own (roads.map roadD ++ [D.tup [.int (min (e : Int) g), .int (max (e : Int) g)]])), some (natD g), some (natD e), none, none, none], st⟩
    rw [e2]
    refine ⟨rfl, ?_⟩
    show onO (ixD (cntD (lefts n S (g :: row))) (natD g)) _
    rw [ix_int (by rw [ll]; exact gn)]
    refine ⟨trivial, ?_⟩
    refine ⟨(by rw [sizeLine_eq]; simp), rfl, ?_⟩
    show onO (setD (cntD (lefts n S (g :: row))) (natD e) (.int 0)) _
    rw [set_int (by rw [ll]; exact en)]
    show onO (setD (cntD ((lefts n S (g :: row)).set e 0)) (natD g) (.int ((lefts n S (g :: row)).getD g 0 - 1))) _
    rw [set_int (by rw [List.length_set, ll]; exact gn), lefts_step (up_nodup u) mg ne]
    exact tree_loop hn h row (S.erase e) T' (roads ++ [mm e g]) _ _ r (fun k m => sub k (List.mem_of_mem_erase m)) (by rw [List.append_assoc]; exact eT) (by rw [List.length_append]; simp only [List.length_cons, List.length_nil]; omega)
end Mf.L_k92
set_option Elab.async false
set_option linter.all false
set_option maxRecDepth 100000
set_option maxHeartbeats 1000000
namespace Mf.L_k92
open PySem PySem.Spec PyProof.Rows L2 PySem.SeqAt
theorem lex_one {a b : Int} (l m : List (Int ⊕ List Nat)) (h : a ≠ b) : lexT (.inl a :: l) (.inl b :: m) = decide (a < b) := by
  have e := PySem.W.dataLt_int a b
  unfold PySem.W.dataLt PySem.W.keyToks at e
  have e2 := PySem.W.lex_atom (p := .inl a) (q := .inl b) (by intro z; cases z; exact h rfl) l m
  rw [show lexT (.inl a :: l) (.inl b :: m) = _ from e2, e]
theorem lex_same (x : Int ⊕ List Nat) (l m : List (Int ⊕ List Nat)) : lexT (x :: l) (x :: m) = lexT l m := PySem.W.lex_pre [x] l m
theorem lt_road (p q : Nat × Nat) : ltD (roadD p) (roadD q) = decide (p.1 < q.1 ∨ (p.1 = q.1 ∧ p.2 < q.2)) := by
  show lexT (.inl 1 :: .inl (p.1 : Int) :: [.inl 1, .inl (p.2 : Int), .inl 0]) (.inl 1 :: .inl (q.1 : Int) :: [.inl 1, .inl (q.2 : Int), .inl 0]) = _
  rw [lex_same]
  by_cases h : p.1 = q.1
  · rw [h, lex_same, lex_same]
    by_cases h2 : p.2 = q.2
    · rw [h2, lex_same, lex_same]
      simp [lexT, PyProof.Rows.lexLt]
    · rw [lex_one _ _ (by omega)]
      exact decide_eq_decide.mpr (by omega)
  · rw [lex_one _ _ (by omega)]
    exact decide_eq_decide.mpr (by omega)
theorem le_road (p q : Nat × Nat) : leD (roadD p) (roadD q) = leP p q := by
  show (!ltD (roadD q) (roadD p)) = _
  rw [lt_road, leP]
  by_cases h : p.1 < q.1 ∨ (p.1 = q.1 ∧ p.2 ≤ q.2)
  · rw [decide_eq_true h, decide_eq_false (by omega)]; rfl
  · rw [decide_eq_false h, decide_eq_true (by omega)]; rfl
theorem sort_road (T : Rds) : (T.map roadD).mergeSort leD = (sortP T).map roadD :=
  (List.map_mergeSort (r := leP) (s := leD) (f := roadD) (l := T) fun a _ b _ => (le_road a b).symm).symm
theorem nowns_roads : ∀ rs : Rds, nowns (rs.map roadD) = true
  | [] => rfl
  | p :: rs => by rw [List.map_cons, nowns, nowns_roads rs] <;> rfl
theorem sorts_road (T : Rds) (h : T.length < 4000) : SortsD (T.map roadD) := by
  refine ⟨?_, by rw [List.length_map, sizeLine_eq]; omega, ?_, .inl ?_⟩
  · simp [List.all_map, Pl, roadD, pairD]
  · intro d hd d' hd'
    simp only [List.map_map, List.mem_map] at hd hd'
    obtain ⟨_, _, rfl⟩ := hd
    obtain ⟨_, _, rfl⟩ := hd'
    rfl
  · intro d hd
    simp only [List.map_map, List.mem_map] at hd
    obtain ⟨_, _, rfl⟩ := hd
    exact ⟨_, _, rfl⟩
theorem up_ext : ∀ {l l' : List Nat}, Up l → Up l' → (∀ x, x ∈ l ↔ x ∈ l') → l = l'
  | [], [], _, _, _ => rfl
  | [], b :: l', _, _, h => absurd ((h b).mpr (by simp)) (by simp)
  | a :: l, [], _, _, h => absurd ((h a).mp (by simp)) (by simp)
  | a :: l, b :: l', u, u', h => by
    obtain ⟨u1, u2⟩ := List.pairwise_cons.mp u
    obtain ⟨v1, v2⟩ := List.pairwise_cons.mp u'
    have e : a = b := by
      rcases List.mem_cons.mp ((h a).mp (by simp)) with q | q
      · exact q
      · rcases List.mem_cons.mp ((h b).mpr (by simp)) with r | r
        · exact r.symm
        · have := v1 a q
          have := u1 b r
          omega
    subst e
    rw [up_ext u2 v2 fun x => ?_]
    have hx := h x
    simp only [List.mem_cons] at hx
    constructor
    · intro m
      rcases hx.mp (.inr m) with q | q
      · subst q; exact absurd (u1 x m) (by omega)
      · exact q
    · intro m
      rcases hx.mpr (.inr m) with q | q
      · subst q; exact absurd (v1 x m) (by omega)
      · exact q
theorem filt_S {n : Nat} {S : List Nat} (u : Up S) (sub : ∀ h ∈ S, h < n) : (List.range n).filter (fun h => decide (h ∈ S)) = S :=
  up_ext ((up_range n).filter _) u fun x => by
    rw [List.mem_filter, decide_eq_true_eq, List.mem_range]
    exact ⟨fun h => h.2, fun h => ⟨sub x h, h⟩⟩
def BadHouses (h : D) : Prop := ((tyS h).isSome = true ∧ isIntD h = false) ∨ ∃ i, h = .int i ∧ (i < 2 ∨ 64 < i)
def BadRow (n : Nat) (x : D) : Prop := ((tyS x).isSome = true ∧ isLstD x = false) ∨ ∃ m xs, x = .lst m xs ∧ m ≠ .own ∧ xs.length < 1000 ∧ (∀ d ∈ xs, (tyS d).isSome = true ∧ flatD d = true) ∧ (xs.length ≠ n - 2 ∨ ∃ d ∈ xs, isIdxD d n = false)
def sTree : DSp := fun ds st Q E => ∃ h x, ds = [h, x] ∧ nown h = true ∧ nown x = true ∧
  ((∃ (n : Nat) (row : List Nat) (T : Rds), h = natD n ∧ seqD x (row.map natD) ∧ n ≤ 64 ∧ Dec (List.range n) row T ∧ ∀ ws, Q (trD .own n (sortP T) ws) st) ∨
   (BadHouses h ∧ E ⟨"InvalidHouses", [("given", fz h)]⟩ st) ∨
   ∃ n : Nat, h = natD n ∧ 2 ≤ n ∧ n ≤ 64 ∧ BadRow n x ∧ E ⟨"InvalidRow", [("given", fz x)]⟩ st)
theorem inner_count {n : Nat} {x : D} {row : List Nat} {k : Nat} {st : Sto} {c2 c3 c4 c5 c7 : Option D} (hx : seqD x (row.map natD)) (hn : nown x = true) (hl : row.length < 1000) {K : D → En → Prop}
    (q : K (.int ((row.count k : Nat) : Int)) ⟨[some (natD n), some x, c2, c3, c4, c5, none, c7, some (natD k)], st⟩) :
    dCall cLen (aCons (dLc [6] (iSeq (pe (pVar 1))) (tName 6) (bV (pe (pOp oEq (pVar 6) (pVar 8)))) (pe (pVar 6))) (aNil)) ⟨[some (natD n), some x, c2, c3, c4, c5, none, c7, some (natD k)], st⟩ K EN := by
  have key : lcL [6] (tName 6) (bV (pe (pOp oEq (pVar 6) (pVar 8)))) (pe (pVar 6)) (row.map natD) [] ⟨[some (natD n), some x, c2, c3, c4, c5, none, c7, some (natD k)], st⟩ (fun acc e2 => cLen [.lst .own acc] fun z => K z e2) := by
    refine lcL_pure (p := fun d => match d with | .int i => decide (i = (k : Int)) | _ => false) (f := fun d => d) (by decide : (6 : Nat) < 9) rfl _ [] (fun d m Qb q => ?_) (fun d m _ Qd q => by obtain ⟨i, _, rfl⟩ := List.mem_map.mp m; exact ⟨rfl, q⟩) (by rw [List.length_map, sizeLine_eq]; simp; omega) ?_
    · obtain ⟨i, hi, rfl⟩ := List.mem_map.mp m
      refine ⟨rfl, rfl, rfl, ?_⟩
      show Qb (eqD (natD i) (natD k)) _
      rw [eq_int]
      exact q
    · rw [List.nil_append, List.map_id'' (fun _ => rfl), filt_nat (P := fun i => decide (i = k)) fun i _ => decide_eq_decide.mpr (by omega)]
      show K (.int ((((row.filter fun i => decide (i = k)).map natD).length : Nat) : Int)) _
      have e : (row.filter fun i => decide (i = k)).length = row.count k := by
        rw [List.count, List.countP_eq_length_filter]
        congr 1
      rw [List.length_map, e]
      exact q
  rcases hx with rfl | ⟨m, rfl⟩
  · exact ⟨hn, hn, key⟩
  · exact ⟨hn, hn, key⟩
end Mf.L_k92
set_option Elab.async false
set_option linter.all false
set_option maxRecDepth 100000
set_option maxHeartbeats 1000000
namespace Mf.L_k92
open PySem PySem.Spec PyProof.Rows L2 PySem.SeqAt
theorem Dec.sorted {n : Nat} {S : List Nat} {T : Rds} (d : Dec S [] T) : ∃ a b, a < b ∧ S = [a, b] ∧ T = [(a, b)] := by
  cases d with
  | two h => exact ⟨_, _, h, rfl, rfl⟩
theorem all_idx {n : Nat} {row : List Nat} (h : ∀ k ∈ row, k < n) {env : En} {v : Nat} (hv : v < env.sl.length) (hw : wipeE env [v] = env) (h0 : ∀ d, getS (setS env v d) 0 = some (natD n)) (hl : ∀ d, getS (setS env v d) v = some d) (hz : row.length < 1000) {K : List D → En → Prop}
    (q : K ((row.map fun _ => true).map D.bl) env) : lcL [v] (tName v) bYes (dFnB sIsIdx (paCons (pVar v) (paCons (pVar 0) (paNil)))) (row.map natD) [] env K := by
  refine lcL_pure (p := fun _ => true) (f := fun _ => .bl true) hv hw _ [] (fun d m Qb q => q) (fun d m _ Qd q => ?_) (by rw [List.length_map, sizeLine_eq]; simp; omega) ?_
  · obtain ⟨k, hk, rfl⟩ := List.mem_map.mp m
    unfold dFnB paCons pVar paNil
    rw [hl]
    simp only [onS]
    rw [h0]
    refine ⟨natD k, (n : Int), rfl, rfl, rfl, ?_⟩
    have e : isIdxD (natD k) n = true := by
      have := h k hk
      simp [isIdxD]
      omega
    rw [e]
    exact q
  · rw [List.nil_append, List.filter_eq_self.mpr fun _ _ => rfl, List.map_map]
    rw [List.map_map] at q
    exact q
abbrev tRest (sp : DSp) : SF := sSeq (sSet 2 (dLc [8] (iR1 (aCons (pe (pVar 0)) (aNil))) (tName 8) (bYes) (dOp oAdd (pe (pC (.int 1))) (dCall cLen (aCons (dLc [6] (iSeq (pe (pVar 1))) (tName 6) (bV (pe (pOp oEq (pVar 6) (pVar 8)))) (pe (pVar 6))) (aNil))))))
      (sSeq (sSet 3 (dLst (aNil)))
      (sSeq (sFor (iSeq (pe (pVar 1))) (tName 4) tB)
      (sSeq (sAsg (dLc [8] (iR1 (aCons (pe (pVar 0)) (aNil))) (tName 8) (bV (pe (pOp oEq (pIx (pVar 2) (pVar 8)) (pC (.int 1))))) (pe (pVar 8))) (tLstT 2 (tsCons (tNameF 6) (tsCons (tNameF 7) (tsNil)))))
      (sRet (dMake "Tree" sp (aCons (pe (pVar 0)) (aCons (dCall cSorted (aCons (dLst (aStar (dVar 3) (aCons (dTup (aCons (pe (pVar 6)) (aCons (pe (pVar 7)) (aNil)))) (aNil)))) (aNil))) (aNil))))))))
theorem tree_rest {n : Nat} {row : List Nat} {T : Rds} {x : D} {st : Sto} {Q : D → Sto → Prop} {E : DX → Sto → Prop} (nx : nown x = true) (hx : seqD x (row.map natD)) (hn : n ≤ 64) (d : Dec (List.range n) row T) (q : ∀ ws, Q (trD .own n (sortP T) ws) st) :
    tRest sInit (spN Q E) ⟨[some (natD n), some x, none, none, none, none, none, none, none], st⟩ := by
  have dl := d.len
  have sub := d.sub
  rw [List.length_range] at dl
  have rl : ∀ k ∈ row, k < n := fun k m => List.mem_range.mp (sub k m)
  refine ⟨rfl, ⟨by omega, by omega⟩, ?_⟩
  show lcL [8] (tName 8) bYes (dOp oAdd (pe (pC (.int 1))) (dCall cLen (aCons (dLc [6] (iSeq (pe (pVar 1))) (tName 6) (bV (pe (pOp oEq (pVar 6) (pVar 8)))) (pe (pVar 6))) (aNil)))) (rng 0 (n : Int)) [] ⟨[some (natD n), some x, none, none, none, none, none, none, none], st⟩ _
  rw [rng0]
  refine lcL_pure (p := fun _ => true) (f := fun d => match d with | .int i => .int (1 + (row.count i.toNat : Nat)) | _ => .non) (by decide : (8 : Nat) < 9) rfl _ [] (fun d m Qb q => q) (fun d m _ Qd q => ?_) (by rw [List.length_map, List.length_range, sizeLine_eq]; simp; omega) ?_
  · obtain ⟨k, hk, rfl⟩ := List.mem_map.mp m
    refine ⟨rfl, ?_⟩
    refine inner_count (k := k) hx nx (by omega) ?_
    exact q
  · rw [List.nil_append, List.filter_eq_self.mpr fun _ _ => rfl, List.map_map]
    have e1 : D.lst .own ((List.range n).map ((fun d => match d with | D.int i => D.int (1 + (row.count i.toNat : Nat)) | _ => .non) ∘ natD)) = cntD (lefts n (List.range n) row) := by
      unfold cntD lefts
      rw [List.map_map]
      congr 1
      refine List.map_congr_left fun k m => ?_
      show D.int (1 + (row.count k : Nat)) = D.int (if k ∈ List.range n then (row.count k : Int) + 1 else 0)
      rw [if_pos m, Int.add_comm]
    refine ⟨(by decide : (2 : Nat) < 9), ?_⟩
    rw [e1]
    refine ⟨Nat.zero_le _, (by decide : (3 : Nat) < 9), ?_⟩
    refine for_seq (i := 1) (g := tName 4) (b := tB) (env := ⟨[some (natD n), some x, some (cntD (lefts n (List.range n) row)), some (roadsD []), none, none, none, none, none], st⟩) hx nx rfl ?_
    refine tree_loop (T0 := T) (by omega) (fun S T' roads c4 c5 d' sub' eT => ?_) row (List.range n) T [] none none d (fun h m => List.mem_range.mp m) rfl (by simp; omega)
    obtain ⟨a, b, ab, rfl, rfl⟩ := d'.sorted (n := n)
    have an := sub' a (by simp)
    have bn := sub' b (by simp)
    refine ⟨rfl, ⟨by omega, by omega⟩, ?_⟩
    show lcL [8] (tName 8) (bV (pe (pOp oEq (pIx (pVar 2) (pVar 8)) (pC (.int 1))))) (pe (pVar 8)) (rng 0 (n : Int)) [] ⟨[some (natD n), some x, some (cntD (lefts n [a, b] [])), some (roadsD roads), c4, c5, none, none, none], st⟩ _
    rw [rng0]
    refine lcL_pure (p := fun d => match d with | .int i => decide (i.toNat ∈ [a, b]) | _ => false) (f := fun d => d) (by decide : (8 : Nat) < 9) rfl _ [] (fun d m Qb q => ?_) (fun d m _ Qd q => by obtain ⟨i, _, rfl⟩ := List.mem_map.mp m; exact ⟨rfl, q⟩) (by rw [List.length_map, List.length_range, sizeLine_eq]; simp; omega) ?_
    · obtain ⟨k, hk, rfl⟩ := List.mem_map.mp m
      have hk := List.mem_range.mp hk
      show onO (ixD (cntD (lefts n [a, b] [])) (natD k)) _
      rw [ix_int (by rw [lefts_len]; exact hk), lefts_at hk]
      refine ⟨rfl, rfl, rfl, ?_⟩
      show Qb (eqD (.int (if k ∈ [a, b] then ((([] : List Nat).count k : Nat) : Int) + 1 else 0)) (.int 1)) _
      rw [eq_int]
      have e2 : decide ((if k ∈ [a, b] then ((([] : List Nat).count k : Nat) : Int) + 1 else 0) = 1) = decide (k ∈ [a, b]) := by
        by_cases z : k ∈ [a, b]
        · rw [if_pos z, decide_eq_true z]; rfl
        · rw [if_neg z, decide_eq_false z]; rfl
      rw [e2]
      exact q
    · rw [List.nil_append, List.map_id'' (fun _ => rfl), filt_nat (P := fun k => decide (k ∈ [a, b])) fun k _ => rfl, filt_S d'.up sub']
      refine ⟨rfl, (by decide : (6 : Nat) < 9), (by decide : (7 : Nat) < 9), ?_⟩
      have fr : fzs (roads.map roadD) = roads.map roadD := by rw [← cast_map, fz_pairs]
      refine ⟨rfl, ?_⟩
      refine ⟨by rw [fr]; exact nowns_roads roads, ?_⟩
      refine ⟨rfl, rfl, (by rw [sizeLine_eq]; simp), ?_⟩
      have e3 : fzs (roads.map roadD) ++ [D.tup [natD a, natD b]] = (roads ++ [(a, b)]).map roadD := by
        rw [fr, List.map_append] <;> rfl
      show (fzs (roads.map roadD) ++ [D.tup [natD a, natD b]]).length ≤ sizeLine ∧ _
      refine ⟨by rw [e3, eT, List.length_map, sizeLine_eq]; omega, ?_⟩
      show cSorted [D.lst .own (fzs (roads.map roadD) ++ [D.tup [natD a, natD b]])] _
      rw [e3, eT]
      refine ⟨nowns_roads T, sorts_road T (by omega), ?_⟩
      intro ad
      refine ⟨ad, n, _, sortP T, st, rfl, rfl, .inr ⟨.own, by rw [sort_road]⟩, d.good hn, fun ws => ⟨rfl, ?_⟩⟩
      show onO (getSt ((ad, tI (treeF n (sortP T) ws)) :: st) ad) _
      rw [getSt_self]
      show Q (trD .own n (sortP T) ws) (dropSt ((ad, tI (treeF n (sortP T) ws)) :: st) ad)
      have e4 : dropSt ((ad, tI (treeF n (sortP T) ws)) :: st) ad = st := by simp [dropSt]
      rw [e4]
      exact q ws
theorem isLst_fz (d : D) : isLstD (fz d) = isLstD d := by
  cases d <;> first | rfl | (rename_i m _; cases m <;> rfl) | (rename_i m _ _; cases m <;> rfl)
theorem m_tree_of_row : ∀ ds st Q E, sTree ds st Q E → b_tree_of_row sIsInt sIsLst sIsIdx sInit (spN Q E) (startE 9 ds st) := by
  have two : ∀ n : Nat, 2 ≤ n → n ≤ 64 → ltD (natD n) (.int 2) = false ∧ ltD (.int 64) (natD n) = false := fun n lo hi => ⟨by rw [lt_int]; simp; omega, by rw [lt_int]; simp; omega⟩
  rintro _ st Q E ⟨h, x, rfl, nh, nx, ⟨n, row, T, rfl, hx, hn, d, q⟩ | ⟨bh, q⟩ | ⟨n, rfl, lo, hi, br, q⟩⟩
  · have dl := d.len
    have sub := d.sub
    rw [List.length_range] at dl
    have rl : ∀ k ∈ row, k < n := fun k m => List.mem_range.mp (sub k m)
    obtain ⟨c1, c2⟩ := two n (by omega) hn
    refine ⟨natD n, rfl, rfl, rfl, ?_⟩
    refine ⟨cmp_int 2 n, ?_⟩
    show onB (.bl (!ltD (natD n) (.int 2))) _
    rw [c1]
    refine ⟨cmp_int n 64, ?_⟩
    show onB (.bl (!ltD (.int 64) (natD n))) _
    rw [c2]
    refine ⟨fz x, rfl, ?_, ?_⟩
    · rw [tyS_fz]
      rcases hx with rfl | ⟨m, rfl⟩ <;> rfl
    have lx : isLstD (fz x) = true := by
      rcases hx with rfl | ⟨m, rfl⟩
      · rfl
      · cases m <;> rfl
    rw [lx]
    have fin := tree_rest (Q := Q) (E := E) (st := st) nx hx hn d q
    have e1 : eqD (.int ((row.map natD).length : Nat)) (.int ((n : Int) - 2)) = true := by rw [eq_int, List.length_map]; simp; omega
    have e : (row.map fun _ => true).all id = true := by simp
    rcases hx with rfl | ⟨m, rfl⟩
    · refine ⟨rfl, trivial, rfl, rfl, rfl, ?_⟩
      show onB (.bl (!eqD (.int ((row.map natD).length : Nat)) (.int ((n : Int) - 2)))) _
      rw [e1]
      refine ⟨nx, nx, all_idx (env := ⟨[some (natD n), some (.tup (row.map natD)), none, none, none, none, none, none, none], st⟩) rl (by decide : (8 : Nat) < 9) rfl (fun _ => rfl) (fun _ => rfl) (by omega) ⟨row.map fun _ => true, rfl, ?_⟩⟩
      rw [e]
      exact fin
    · refine ⟨rfl, trivial, rfl, rfl, rfl, ?_⟩
      show onB (.bl (!eqD (.int ((row.map natD).length : Nat)) (.int ((n : Int) - 2)))) _
      rw [e1]
      refine ⟨nx, nx, all_idx (env := ⟨[some (natD n), some (.lst m (row.map natD)), none, none, none, none, none, none, none], st⟩) rl (by decide : (8 : Nat) < 9) rfl (fun _ => rfl) (fun _ => rfl) (by omega) ⟨row.map fun _ => true, rfl, ?_⟩⟩
      rw [e]
      exact fin
  · rcases bh with ⟨h1, h2⟩ | ⟨i, rfl, hi⟩
    · refine ⟨fz h, rfl, by rw [tyS_fz]; exact h1, ?_⟩
      rw [isInt_fz, h2]
      exact ⟨rfl, nh, rfl, q⟩
    · refine ⟨.int i, rfl, rfl, rfl, cmp_int 2 i, ?_⟩
      show onB (.bl (!ltD (.int i) (.int 2))) _
      rw [lt_int]
      by_cases h2 : i < 2
      · rw [decide_eq_true h2]
        exact ⟨rfl, rfl, q⟩
      · rw [decide_eq_false h2]
        refine ⟨cmp_int i 64, ?_⟩
        show onB (.bl (!ltD (.int 64) (.int i))) _
        rw [lt_int, decide_eq_true (by omega)]
        exact ⟨rfl, rfl, q⟩
  · obtain ⟨c1, c2⟩ := two n lo hi
    refine ⟨natD n, rfl, rfl, rfl, ?_⟩
    refine ⟨cmp_int 2 n, ?_⟩
    show onB (.bl (!ltD (natD n) (.int 2))) _
    rw [c1]
    refine ⟨cmp_int n 64, ?_⟩
    show onB (.bl (!ltD (.int 64) (natD n))) _
    rw [c2]
    rcases br with ⟨h1, h2⟩ | ⟨m, xs, rfl, hm, hl, ha, hb⟩
    · refine ⟨fz x, rfl, by rw [tyS_fz]; exact h1, ?_⟩
      rw [isLst_fz, h2]
      exact ⟨rfl, nx, rfl, q⟩
    · have ef : fz (.lst m xs) = .lst m xs := by
        cases m with
        | own => exact absurd rfl hm
        | _ => rfl
      rw [ef] at q
      refine ⟨.lst m xs, by show [fz (.lst m xs)] = _; rw [ef], rfl, rfl, trivial, rfl, rfl, rfl, ?_⟩
      show onB (.bl (!eqD (.int (xs.length : Nat)) (.int ((n : Int) - 2)))) _
      rw [eq_int]
      by_cases hz : (xs.length : Int) = (n : Int) - 2
      · rw [decide_eq_true hz]
        refine ⟨nx, nx, ?_⟩
        show lcL [8] (tName 8) bYes (dFnB sIsIdx (paCons (pVar 8) (paCons (pVar 0) (paNil)))) xs [] ⟨[some (natD n), some (.lst m xs), none, none, none, none, none, none, none], st⟩ _
        refine lcL_pure (p := fun _ => true) (f := fun d => .bl (isIdxD d n)) (by decide : (8 : Nat) < 9) rfl _ [] (fun d m Qb q => q) (fun d md _ Qd q => ?_) (by rw [sizeLine_eq]; simp; omega) ?_
        · have hd := ha d md
          have ed : fz d = d := by
            cases d <;> first | rfl | simp [flatD] at hd
          exact ⟨d, (n : Int), by show [fz d, natD n] = _; rw [ed], hd.1, rfl, q⟩
        · rw [List.nil_append, List.filter_eq_self.mpr fun _ _ => rfl]
          refine ⟨xs.map fun d => isIdxD d n, by rw [List.map_map] <;> rfl, ?_⟩
          have e : (xs.map fun d => isIdxD d n).all id = false := by
            rcases hb with hb | ⟨d, md, hd⟩
            · exact absurd hz (by omega)
            · refine Bool.eq_false_iff.mpr fun z => ?_
              have := List.all_eq_true.mp z _ (List.mem_map.mpr ⟨d, md, rfl⟩)
              rw [hd] at this
              cases this
          rw [e]
          exact ⟨nx, rfl, by rw [← ef] at q; exact q⟩
      · rw [decide_eq_false hz]
        exact ⟨nx, rfl, by rw [← ef] at q; exact q⟩
end Mf.L_k92
set_option Elab.async false
set_option linter.all false
set_option maxRecDepth 100000
set_option maxHeartbeats 1000000
namespace Mf.L_k92
open PySem PySem.Spec PyProof.Rows L2 PySem.SeqAt
/-! _law_is -/
def sNo : DSp := fun _ _ _ _ => False
def sIs1 : DSp := fun ds st Q _ => ∃ i : Int, ds = [.int i, .int i] ∧ Q (.bl true) st
theorem isa2 {i : Nat} {env : En} {d : D} {Q : D → Prop} (h : getS env i = some d) (t : (tyS d).isSome = true) (q : Q (.bl (isLstD d))) : pCall cIsa (paCons (pVar i) (paCons (pTup (paCons (pC (.typ "list")) (paCons (pC (.typ "tuple")) (paNil)))) (paNil))) env Q := by
  unfold pCall paCons pVar paNil
  rw [h]
  refine ⟨by rw [sizeLine_eq]; decide, ?_⟩
  show onO (isaD d (.tup [.typ "list", .typ "tuple"])) _
  rw [isa_lt t]
  exact q
theorem int_case {sp : DSp} {st : Sto} {Q : D → Sto → Prop} {E : DX → Sto → Prop} (i : Int) (e : eqD (.int i) (.int i) = true) (q : Q (.bl true) st) : b_law_is sp (spN Q E) (startE 3 [.int i, .int i] st) := by
  refine isa2 (i := 1) (env := startE 3 [.int i, .int i] st) (d := .int i) rfl rfl ?_
  refine ⟨rfl, ?_⟩
  refine ⟨rfl, rfl, rfl, ?_⟩
  show Q (.bl (eqD (.int i) (.int i))) st
  rw [e]
  exact q
theorem m_law_is1 : ∀ ds st Q E, sIs1 ds st Q E → b_law_is sNo (spN Q E) (startE 3 ds st) := by
  rintro _ st Q E ⟨i, rfl, q⟩
  have e : eqD (.int i) (.int i) = true := by rw [eq_int]; simp
  exact int_case i e q
def sIs2 : DSp := fun ds st Q _ => (∃ i : Int, ds = [.int i, .int i] ∧ Q (.bl true) st) ∨ ∃ (m m' : Mk) (l : List Nat), ds = [.lst m (l.map natD), .lst m' (l.map natD)] ∧ l.length < 1000 ∧ Q (.bl true) st
theorem m_law_is2 : ∀ ds st Q E, sIs2 ds st Q E → b_law_is sIs1 (spN Q E) (startE 3 ds st) := by
  rintro _ st Q E (⟨i, rfl, q⟩ | ⟨m, m', l, rfl, hl, q⟩)
  · have e : eqD (.int i) (.int i) = true := by rw [eq_int]; simp
    exact int_case i e q
  · refine isa2 (i := 1) (env := startE 3 [.lst m (l.map natD), .lst m' (l.map natD)] st) (d := .lst m' (l.map natD)) rfl rfl ?_
    refine isa2 (i := 0) (env := startE 3 [.lst m (l.map natD), .lst m' (l.map natD)] st) (d := .lst m (l.map natD)) rfl rfl ?_
    have e1 : eqD (.bl true) (.bl true) = true := by decide +kernel
    have e2 : eqD (.int ((l.map natD).length : Nat)) (.int ((l.map natD).length : Nat)) = true := by rw [eq_int]; simp
    refine ⟨rfl, rfl, rfl, ?_⟩
    show onB (.bl (!eqD (.bl true) (.bl true))) _
    rw [e1]
    refine ⟨rfl, rfl, rfl, ?_⟩
    show onB (.bl (!eqD (.int ((l.map natD).length : Nat)) (.int ((l.map natD).length : Nat)))) _
    rw [e2]
    refine ⟨⟨by omega, by rw [List.length_map]; omega⟩, ?_⟩
    show lcL [2] (tName 2) (bNot (bV (dFnB sIs1 (paCons (pIx (pVar 0) (pVar 2)) (paCons (pIx (pVar 1) (pVar 2)) (paNil)))))) (pe (pVar 2)) (rng 0 ((l.map natD).length : Nat)) [] ⟨[some (.lst m (l.map natD)), some (.lst m' (l.map natD)), none], st⟩ _
    rw [rng0]
    refine lcL_pure (p := fun _ => false) (f := fun d => d) (by decide : (2 : Nat) < 3) rfl _ [] (fun d md Qb q => ?_) (fun d m h Qd q => nomatch h) (by rw [List.length_map, List.length_range, List.length_map, sizeLine_eq]; simp; omega) ?_
    · obtain ⟨k, hk, rfl⟩ := List.mem_map.mp md
      have hk := List.mem_range.mp hk
      rw [List.length_map] at hk
      have ix : ∀ m : Mk, ixD (.lst m (l.map natD)) (natD k) = some (natD (l.getD k 0)) := fun m => by
        show atI (l.map natD) (k : Int) = _
        rw [atI_in (z := natD 0) (by omega) (by simpa using hk)]
        simp [List.getD, List.getElem?_map, List.getElem?_eq_getElem hk]
      show onO (ixD (.lst m (l.map natD)) (natD k)) _
      rw [ix]
      show onO (ixD (.lst m' (l.map natD)) (natD k)) _
      rw [ix]
      exact ⟨_, rfl, rfl, q⟩
    · have ff : ∀ l : List D, l.filter (fun _ => false) = [] := fun l => by simp
      rw [List.nil_append, ff]
      refine ⟨Nat.zero_le _, rfl, rfl, ?_⟩
      have e3 : eqD (.lst .own []) (.lst .own []) = true := by decide +kernel
      show Q (.bl (eqD (.lst .own []) (.lst .own []))) st
      rw [e3]
      exact q
/-! _law_all_rows -/
def allR (n : Nat) : Nat → List (List Nat)
  | 0 => [[]]
  | k + 1 => (allR n k).flatMap fun row => (List.range n).map fun h => row ++ [h]
def rowsD (a : List (List Nat)) : D := .lst .frz (a.map frowD)
def sAllRows : DSp := fun ds st Q _ => ∃ n : Nat, ds = [natD n] ∧ 2 ≤ n ∧ n ≤ 5 ∧ Q (rowsD (allR n (n - 2))) st
theorem frows_fz : ∀ a : List (List Nat), fzs (a.map frowD) = a.map frowD
  | [] => rfl
  | l :: a => by rw [List.map_cons, fzs, frows_fz a] <;> rfl
theorem nowns_fr : ∀ a : List (List Nat), nowns (a.map frowD) = true := nowns_frows
abbrev aB : SF := sSetF 3 (dOp oAdd (pe (pVar 3)) (dFz (dLc [5] (iR1 (aCons (pe (pVar 0)) (aNil))) (tName 5) (bYes) (nOp oAdd (pVar 4) (pLst (paCons (pVar 5) (paNil)))))))
def grow (n : Nat) (row : List Nat) : List (List Nat) := (List.range n).map fun h => row ++ [h]
theorem all_in {N : DN} {st : Sto} {n : Nat} {c1 c2 : Option D} (hn : n ≤ 5) {K : List (List Nat) → Prop} (h : ∀ acc c4, K acc → N.nx ⟨[some (natD n), c1, c2, some (rowsD acc), c4, none], st⟩) :
    ∀ (rows acc : List (List Nat)) (c4 : Option D), (∀ r ∈ rows, r.length < 10) → acc.length + n * rows.length < 1000 → K (acc ++ rows.flatMap (grow n)) →
    forL (tName 4) aB N (rows.map frowD) ⟨[some (natD n), c1, c2, some (rowsD acc), c4, none], st⟩
  | [], acc, c4, _, _, k => h acc c4 (by simpa using k)
  | r :: rows, acc, c4, hr, hz, k => by
    have rl := hr r (by simp)
    rw [List.length_cons, Nat.mul_add] at hz
    refine ⟨(by decide : (4 : Nat) < 6), ?_⟩
    refine ⟨rfl, rfl, ⟨by omega, by omega⟩, ?_⟩
    show lcL [5] (tName 5) bYes (nOp oAdd (pVar 4) (pLst (paCons (pVar 5) (paNil)))) (rng 0 (n : Int)) [] ⟨[some (natD n), c1, c2, some (rowsD acc), some (frowD r), none], st⟩ _
    rw [rng0]
    refine lcL_pure (p := fun _ => true) (f := fun d => match d with | .int i => rowD (r ++ [i.toNat]) | _ => .non) (by decide : (5 : Nat) < 6) rfl _ [] (fun d m Qb q => q) (fun d m _ Qd q => ?_) (by rw [List.length_map, List.length_range, sizeLine_eq]; simp; omega) ?_
    · obtain ⟨i, hi, rfl⟩ := List.mem_map.mp m
      refine ⟨by rw [sizeLine_eq]; simp, rfl, ?_⟩
      show nowns (r.map natD) = true ∧ nowns [natD i] = true ∧ (r.map natD).length + [natD i].length ≤ sizeLine ∧ _
      refine ⟨nowns_nat r, rfl, by rw [List.length_map, sizeLine_eq]; simp; omega, ?_⟩
      have e : D.lst .own (r.map natD ++ [natD i]) = rowD (r ++ [i]) := by simp [rowD]
      show Qd (D.lst .own (r.map natD ++ [natD i])) _
      rw [e]
      exact q
    · rw [List.nil_append, List.filter_eq_self.mpr fun _ _ => rfl, List.map_map]
      have e1 : (List.range n).map ((fun d => match d with | D.int i => rowD (r ++ [i.toNat]) | _ => .non) ∘ natD) = (grow n r).map rowD := by
        unfold grow
        rw [List.map_map] <;> rfl
      rw [e1]
      refine ⟨nowns_fr acc, by rw [fzs_rows]; exact nowns_fr _, by rw [fzs_rows, List.length_map, List.length_map, grow, List.length_map, List.length_range, sizeLine_eq]; omega, (by decide : (3 : Nat) < 6), ?_⟩
      have e2 : fz (.lst .own (acc.map frowD ++ fzs ((grow n r).map rowD))) = rowsD (acc ++ grow n r) := by
        rw [fzs_rows, ← List.map_append]
        show D.lst .frz (fzs ((acc ++ grow n r).map frowD)) = _
        rw [frows_fz] <;> rfl
      show forL (tName 4) aB N (rows.map frowD) ⟨[some (natD n), c1, c2, some (fz (.lst .own (acc.map frowD ++ fzs ((grow n r).map rowD)))), some (frowD r), none], st⟩
      rw [e2]
      refine all_in hn h rows (acc ++ grow n r) _ (fun q m => hr q (.tail _ m)) (by rw [List.length_append, grow, List.length_map, List.length_range]; omega) ?_
      rw [List.append_assoc]
      rw [List.flatMap_cons] at k
      exact k
theorem allR_len (n : Nat) : ∀ k, (allR n k).length = n ^ k ∧ ∀ r ∈ allR n k, r.length = k ∧ ∀ h ∈ r, h < n
  | 0 => ⟨rfl, fun r m => by have := List.mem_singleton.mp m; subst this; simp⟩
  | k + 1 => by
    obtain ⟨l, q⟩ := allR_len n k
    refine ⟨?_, fun r m => ?_⟩
    · have key : ∀ a : List (List Nat), (a.flatMap fun row => (List.range n).map fun h => row ++ [h]).length = a.length * n := fun a => by
        induction a with
        | nil => simp
        | cons x a ih => rw [List.flatMap_cons, List.length_append, ih, List.length_map, List.length_range, List.length_cons, Nat.add_mul]; omega
      show (List.flatMap _ (allR n k)).length = _
      rw [key, l, Nat.pow_succ]
    · obtain ⟨r', m', h'⟩ := List.mem_flatMap.mp m
      obtain ⟨h, mh, rfl⟩ := List.mem_map.mp h'
      have := q r' m'
      refine ⟨by simp [this.1], fun i mi => ?_⟩
      rcases List.mem_append.mp mi with mi | mi
      · exact this.2 i mi
      · rw [List.mem_singleton.mp mi]; exact List.mem_range.mp mh
theorem allR_small {n k : Nat} (hn : n ≤ 5) (hk : k ≤ 3) : (allR n k).length ≤ 125 := by
  rw [(allR_len n k).1]
  have h1 : n ^ k ≤ 5 ^ k := Nat.pow_le_pow_left hn k
  have h2 : 5 ^ k ≤ 5 ^ 3 := Nat.pow_le_pow_right (by omega) hk
  omega
abbrev alB : SF := sSeq (sSetF 3 (dLst (aNil))) (sSeq (sFor (iSeq (pe (pVar 1))) (tName 4) aB) (sSetF 1 (pe (pVar 3))))
theorem all_out {N : DN} {st : Sto} {n : Nat} (hn : n ≤ 5) {m : Nat} (hm : m ≤ 3) (h : ∀ c2 c3 c4, N.nx ⟨[some (natD n), some (rowsD (allR n m)), c2, c3, c4, none], st⟩) :
    ∀ (ds : List D) (k : Nat) (c2 c3 c4 : Option D), ds.length + k = m →
    forL (tName 2) alB N ds ⟨[some (natD n), some (rowsD (allR n k)), c2, c3, c4, none], st⟩
  | [], k, c2, c3, c4, e => by
    have : k = m := by simpa using e
    subst this
    exact h c2 c3 c4
  | d :: ds, k, c2, c3, c4, e => by
    rw [List.length_cons] at e
    have sm := allR_small (k := k) hn (by omega)
    refine ⟨(by decide : (2 : Nat) < 6), ?_⟩
    refine ⟨Nat.zero_le _, (by decide : (3 : Nat) < 6), ?_⟩
    refine for_seq (i := 1) (g := tName 4) (b := aB) (env := ⟨[some (natD n), some (rowsD (allR n k)), some d, some (rowsD []), c4, none], st⟩) (.inr ⟨.frz, rfl⟩) rfl rfl ?_
    refine all_in (K := fun acc => acc = allR n (k + 1)) hn (fun acc c4 ea => ?_) (allR n k) [] c4 (fun r m => by have := ((allR_len n k).2 r m).1; omega) (by
      have : n * (allR n k).length ≤ 5 * 125 := Nat.mul_le_mul hn sm
      simp; omega) rfl
    subst ea
    refine ⟨rfl, (by decide : (1 : Nat) < 6), ?_⟩
    have e2 : fz (rowsD (allR n (k + 1))) = rowsD (allR n (k + 1)) := rfl
    exact all_out hn hm h ds (k + 1) _ _ _ (by omega)
theorem m_law_all_rows : ∀ ds st Q E, sAllRows ds st Q E → b_law_all_rows (spN Q E) (startE 6 ds st) := by
  rintro _ st Q E ⟨n, rfl, lo, hi, q⟩
  refine ⟨Nat.zero_le _, by rw [sizeLine_eq]; decide, (by decide : (1 : Nat) < 6), ?_⟩
  refine ⟨trivial, ⟨by omega, by omega⟩, ?_⟩
  refine all_out (m := n - 2) hi (by omega) (fun c2 c3 c4 => ?_) _ 0 none none none (by rw [rng_length]; omega)
  exact ⟨rfl, q⟩
end Mf.L_k92
set_option Elab.async false
set_option linter.all false
set_option maxRecDepth 100000
set_option maxHeartbeats 1000000
namespace Mf.L_k92
open PySem PySem.Spec PyProof.Rows L2 PySem.SeqAt
inductive Grown (nm : Nat → Nat) : Nat → Rds → Prop where
  | one : Grown nm 1 []
  | step {k i : Nat} {T : Rds} (g : Grown nm k T) (h : i < k) : Grown nm (k + 1) (T ++ [mm (nm i) (nm k)])
theorem Grown.len {nm : Nat → Nat} {k : Nat} {T : Rds} (g : Grown nm k T) : T.length + 1 = k := by
  induction g with
  | one => rfl
  | step g h ih => rw [List.length_append]; simp only [List.length_cons, List.length_nil]; omega
theorem Grown.inr {nm : Nat → Nat} {n k : Nat} {T : Rds} (inj : ∀ i j, i < n → j < n → nm i = nm j → i = j) (g : Grown nm k T) (hk : k ≤ n) : ∀ p ∈ T, p.1 < p.2 ∧ (∃ i, i < k ∧ p.1 = nm i) ∧ ∃ j, j < k ∧ p.2 = nm j := by
  induction g with
  | one => intro p m; cases m
  | @step k i T g h ih =>
    intro p m
    rcases List.mem_append.mp m with m | m
    · obtain ⟨a, ⟨i, hi, ei⟩, j, hj, ej⟩ := ih (by omega) p m
      exact ⟨a, ⟨i, by omega, ei⟩, j, by omega, ej⟩
    · rw [List.mem_singleton.mp m]
      have ne : nm i ≠ nm k := fun z => by have := inj i k (by omega) (by omega) z; omega
      refine ⟨mm_lt ne, ?_, ?_⟩
      · unfold mm; dsimp only; rw [Nat.min_def]; split
        · exact ⟨i, by omega, rfl⟩
        · exact ⟨k, by omega, rfl⟩
      · unfold mm; dsimp only; rw [Nat.max_def]; split
        · exact ⟨k, by omega, rfl⟩
        · exact ⟨i, by omega, rfl⟩
theorem Grown.nd {nm : Nat → Nat} {n k : Nat} {T : Rds} (inj : ∀ i j, i < n → j < n → nm i = nm j → i = j) (g : Grown nm k T) (hk : k ≤ n) : T.Nodup := by
  induction g with
  | one => simp
  | @step k i T g h ih =>
    refine List.nodup_append.mpr ⟨ih (by omega), by simp, fun p mp q mq e => ?_⟩
    rw [List.mem_singleton.mp mq] at e
    subst e
    obtain ⟨a, ⟨i1, hi1, ei⟩, j, hj, ej⟩ := g.inr inj (by omega) _ mp
    unfold mm at ei ej
    dsimp only at ei ej
    rw [Nat.min_def] at ei
    rw [Nat.max_def] at ej
    split at ej
    · have := inj k j (by omega) (by omega) ej; omega
    · rw [if_neg (by assumption)] at ei
      have := inj k i1 (by omega) (by omega) ei; omega
theorem Grown.conn {nm : Nat → Nat} {k : Nat} {T : Rds} (g : Grown nm k T) (P : Nat → Prop) : (∀ p ∈ T, P p.1 ↔ P p.2) → ∀ i, i < k → (P (nm 0) ↔ P (nm i)) := by
  induction g with
  | one => intro _ i hi; have : i = 0 := by omega
           subst this; exact Iff.rfl
  | @step k i T g h ih =>
    intro c j hj
    have c0 := ih fun p m => c p (List.mem_append_left _ m)
    by_cases e : j < k
    · exact c0 j e
    · have : j = k := by omega
      subst this
      exact (c0 i h).trans (mm_iff (c _ (List.mem_append_right _ (by simp))))
theorem perm_inj {l : List Nat} {n : Nat} (p : List.Perm l (List.range n)) : ∀ i j, i < n → j < n → l.getD i 0 = l.getD j 0 → i = j := by
  have nd : l.Nodup := p.nodup_iff.mpr List.nodup_range
  have ln : l.length = n := by rw [p.length_eq, List.length_range]
  intro i j hi hj e
  rw [List.getD_eq_getElem?_getD, List.getD_eq_getElem?_getD, List.getElem?_eq_getElem (by omega), List.getElem?_eq_getElem (by omega)] at e
  exact (List.getElem_inj nd).mp e
theorem grown_good {l : List Nat} {n : Nat} {T : Rds} (p : List.Perm l (List.range n)) (g : Grown (fun i => l.getD i 0) n T) (lo : 1 ≤ n) (hi : n ≤ 64) : Good n (sortP T) := by
  have inj := perm_inj p
  have ln : l.length = n := by rw [p.length_eq, List.length_range]
  have lt : ∀ i, i < n → l.getD i 0 < n := fun i h => by
    rw [List.getD_eq_getElem?_getD, List.getElem?_eq_getElem (by omega)]
    exact List.mem_range.mp (p.subset (List.getElem_mem _))
  refine good_of lo hi g.len (fun q m => ?_) (g.nd inj (Nat.le_refl _)) fun P c i mi j mj pi => ?_
  · obtain ⟨a, _, j, hj, ej⟩ := g.inr inj (Nat.le_refl _) q m
    exact ⟨a, by rw [ej]; exact lt j hj⟩
  · have at' : ∀ h ∈ List.range n, ∃ k, k < n ∧ h = l.getD k 0 := fun h m => by
      obtain ⟨k, hk, e⟩ := List.mem_iff_getElem.mp (p.symm.subset m)
      exact ⟨k, by omega, by rw [List.getD_eq_getElem?_getD, List.getElem?_eq_getElem hk]; exact e.symm⟩
    obtain ⟨a, ha, ea⟩ := at' i mi
    obtain ⟨b, hb, eb⟩ := at' j mj
    have cc := g.conn P c
    rw [eb]
    refine (cc b hb).mp ((cc a ha).mpr ?_)
    rw [← ea]
    exact pi
end Mf.L_k92
set_option Elab.async false
set_option linter.all false
set_option maxRecDepth 100000
set_option maxHeartbeats 1000000
namespace Mf.L_k92
open PySem PySem.Spec PyProof.Rows L2 PySem.SeqAt
def sRoads : DSp := fun ds st Q _ => ∃ (a : Addr) (m : Int) (p q r : Int) (st0 : Sto), ds = [.ptr a, .int m] ∧ st = (a, boxD p q r) :: st0 ∧ 0 < m ∧ m ≤ 64 ∧ 0 ≤ p ∧ 0 ≤ q ∧ q < 2147483629 ∧ 0 ≤ r ∧ r < 700000 ∧
  ∀ (n : Nat) (rs : Rds) (p' r' : Int), Good n rs → 0 ≤ p' → r ≤ r' → r' ≤ r + 300 → Q (.lst .own [natD n, .lst .own (rs.map roadD)]) ((a, boxD p' q r') :: st0)
abbrev rdA : SF := sSetF 7 (dIx (dLst (aCons (dFn sTake (aCons (pe (pVar 0)) (aCons (pe (pVar 6)) (aNil)))) (aCons (nOp oSub (pVar 6) (pC (.int 1))) (aCons (dCall cMax2 (aCons (pe (pC (.int 0))) (aCons (dOp oSub (nOp oSub (pVar 6) (pC (.int 1))) (dFn sTake (aCons (pe (pVar 0)) (aCons (pe (pC (.int 3))) (aNil))))) (aNil)))) (aCons (pe (pC (.int 0))) (aNil)))))) (pe (pVar 3)))
abbrev rdB : SF := sSeq rdA (sSeq (sPar 8 9 (aCons (pe (pIx (pVar 5) (pVar 7))) (aCons (pe (pIx (pVar 5) (pVar 6))) (aNil))))
      (sExpr (dMth "list" mAppend (qVar 4) (paCons (pTup (paCons (pCall cMin2 (paCons (pVar 8) (paCons (pVar 9) (paNil)))) (paCons (pCall cMax2 (paCons (pVar 8) (paCons (pVar 9) (paNil)))) (paNil)))) (paNil)))))
theorem roads_loop {N : DN} {a : Addr} {m q r0 : Int} {st0 : Sto} {n s : Nat} {l : List Nat} (hn : n ≤ 64) (ln : l.length = n) (hs : s < 4) (q0 : 0 ≤ q) (q1 : q < 2147483629) (r00 : 0 ≤ r0) (rb : r0 < 800000)
    (h : ∀ T p' r' c6 c7 c8 c9, Grown (fun i => l.getD i 0) n T → 0 ≤ p' → r0 ≤ r' → r' ≤ r0 + 2 * (n : Int) → N.nx ⟨[some (.ptr a), some (.int m), some (natD n), some (natD s), some (roadsD T), some (frowD l), c6, c7, c8, c9], (a, boxD p' q r') :: st0⟩) :
    ∀ (ks : List Nat) (k : Nat) (T : Rds) (p r : Int) (c6 c7 c8 c9 : Option D), ks = (List.range n).drop k → Grown (fun i => l.getD i 0) k T → k ≤ n → 0 ≤ p → r0 ≤ r → r ≤ r0 + 2 * (k : Int) →
    forL (tName 6) rdB N (ks.map natD) ⟨[some (.ptr a), some (.int m), some (natD n), some (natD s), some (roadsD T), some (frowD l), c6, c7, c8, c9], (a, boxD p q r) :: st0⟩
  | [], k, T, p, r, c6, c7, c8, c9, ek, g, kn, p0, h1, h2 => by
    have : n ≤ k := by
      have := congrArg List.length ek
      simp at this
      omega
    have : k = n := by omega
    subst this
    exact h T p r c6 c7 c8 c9 g p0 h1 h2
  | x :: ks, k, T, p, r, c6, c7, c8, c9, ek, g, kn, p0, h1, h2 => by
    have kl : k < n := by
      have := congrArg List.length ek
      simp at this
      omega
    have hx : x = k ∧ ks = (List.range n).drop (k + 1) := by
      rw [List.drop_eq_getElem_cons (by simpa using kl)] at ek
      have := List.cons.inj ek
      exact ⟨by rw [this.1]; simp, this.2⟩
    obtain ⟨rfl, ek'⟩ := hx
    have gl := g.len
    refine ⟨(by decide : (6 : Nat) < 10), ?_⟩
    refine ⟨rfl, rfl, a, (x : Int), p, q, r, st0, rfl, rfl, by omega, by omega, p0, q0, q1, by omega, by omega, fun d1 p1 r1 a1 a2 a3 a4 a5 => ?_⟩
    refine ⟨trivial, ?_⟩
    refine ⟨rfl, trivial, ?_⟩
    refine ⟨rfl, rfl, a, 3, p1, q, r1, st0, rfl, rfl, by omega, by omega, a3, q0, q1, by omega, by omega, fun d2 p2 r2 b1 b2 b3 b4 b5 => ?_⟩
    refine ⟨trivial, ?_⟩
    refine ⟨rfl, ?_⟩
    refine ⟨(by rw [sizeLine_eq]; simp), ?_⟩
    refine ⟨rfl, ?_⟩
    have pick : ∃ i : Nat, i < x ∧ ixD (.lst .frz [.int d1, .int ((x : Int) - 1), .int (max 0 ((x : Int) - 1 - d2)), .int 0]) (natD s) = some (natD i) := by
      obtain rfl | rfl | rfl | rfl : s = 0 ∨ s = 1 ∨ s = 2 ∨ s = 3 := by omega
      · exact ⟨d1.toNat, by omega, by show some (D.int d1) = some (D.int (d1.toNat : Int)); rw [Int.toNat_of_nonneg a1]⟩
      · exact ⟨x - 1, by omega, by show some (D.int ((x : Int) - 1)) = some (D.int ((x - 1 : Nat) : Int)); congr 2; omega⟩
      · exact ⟨(max 0 ((x : Int) - 1 - d2)).toNat, by omega, by show some (D.int (max 0 ((x : Int) - 1 - d2))) = some (D.int _); congr 2; omega⟩
      · exact ⟨0, by omega, rfl⟩
    obtain ⟨i, ix, ei⟩ := pick
    show onO (ixD (.lst .frz [.int d1, .int ((x : Int) - 1), .int (max 0 ((x : Int) - 1 - d2)), .int 0]) (natD s)) _
    rw [ei]
    refine ⟨(by decide : (7 : Nat) < 10), ?_⟩
    have ixl : ∀ j : Nat, j < n → ixD (frowD l) (natD j) = some (natD (l.getD j 0)) := fun j hj => by
      show atI (l.map natD) (j : Int) = _
      rw [atI_in (z := natD 0) (by omega) (by simpa [ln] using hj)]
      simp [List.getD, List.getElem?_map, List.getElem?_eq_getElem (show j < l.length by omega)]
    show onO (ixD (frowD l) (natD i)) _
    rw [ixl i (by omega)]
    refine ⟨rfl, ?_⟩
    show onO (ixD (frowD l) (natD x)) _
    rw [ixl x kl]
    refine ⟨rfl, (by decide : (8 : Nat) < 10), (by decide : (9 : Nat) < 10), ?_⟩
    refine ⟨rfl, (by rw [sizeLine_eq]; simp), rfl, ?_⟩
    refine ⟨by rw [List.length_map, sizeLine_eq]; omega, ?_⟩
    have e2 : D.lst .own (T.map roadD ++ [D.tup [.int (min ((l.getD i 0 : Nat) : Int) ((l.getD x 0 : Nat) : Int)), .int (max ((l.getD i 0 : Nat) : Int) ((l.getD x 0 : Nat) : Int))]]) = roadsD (T ++ [mm (l.getD i 0) (l.getD x 0)]) := by
      rw [road_mm]
      simp [roadsD]
    show forL (tName 6) rdB N (ks.map natD) ⟨[some (.ptr a), some (.int m), some (natD n), some (natD s), some (D.lst .own (T.map roadD ++ [D.tup [.int (min ((l.getD i 0 : Nat) : Int) ((l.getD x 0 : Nat) : Int)), .int (max ((l.getD i 0 : Nat) : Int) ((l.getD x 0 : Nat) : Int))]])), some (frowD l), some (natD x), some (natD i), some (natD (l.getD i 0)), some (natD (l.getD x 0))], (a, boxD p2 q r2) :: st0⟩
    rw [e2]
    exact roads_loop hn ln hs q0 q1 r00 rb h ks (x + 1) _ p2 r2 _ _ _ _ ek' (.step g ix) (by omega) b3 (by omega) (by omega)
theorem m_law_roads : ∀ ds st Q E, sRoads ds st Q E → b_law_roads sTake sMixed (spN Q E) (startE 10 ds st) := by
  rintro _ _ Q E ⟨a, m, p, q, r, st0, rfl, rfl, m0, m1, p0, q0, q1, r0, r1, K⟩
  refine ⟨rfl, rfl, rfl, a, m, p, q, r, st0, rfl, rfl, by omega, by omega, p0, q0, q1, by omega, by omega, fun d1 p1 r1 a1 a2 a3 a4 a5 => ?_⟩
  obtain ⟨k, rfl⟩ := Int.eq_ofNat_of_zero_le a1
  refine ⟨rfl, rfl, a, 4, p1, q, r1, st0, rfl, rfl, by omega, by omega, a3, q0, q1, by omega, by omega, fun d2 p2 r2 b1 b2 b3 b4 b5 => ?_⟩
  obtain ⟨s, rfl⟩ := Int.eq_ofNat_of_zero_le b1
  refine ⟨Nat.zero_le _, (by decide : (2 : Nat) < 10), (by decide : (3 : Nat) < 10), (by decide : (4 : Nat) < 10), ?_⟩
  have erg : rgD 0 ((1 + k : Nat) : Int) = (List.range (1 + k)).map natD := by
    have := rng0 (1 + k)
    exact this
  show sSeq (sSetF 5 (dFn sMixed (aCons (pe (pVar 0)) (aCons (dLRg (rg1 (pVar 2))) (aNil))))) _ _ ⟨[some (.ptr a), some (.int m), some (natD (1 + k)), some (natD s), some (roadsD []), none, none, none, none, none], (a, boxD p2 q r2) :: st0⟩
  refine ⟨rfl, ?_, ?_⟩
  · exact ⟨by omega, by omega, by omega, by omega, by omega⟩
  refine ⟨a, .lst .own (rgD 0 ((1 + k : Nat) : Int)), List.range (1 + k), p2, q, r2, st0, rfl, .inr ⟨.own, by rw [erg]⟩, by simp; omega, rfl, b3, q0, q1, by omega, by omega, fun found p3 r3 c1 c2 c3 pm => ?_⟩
  rw [List.length_range] at c3
  refine ⟨(by decide : (5 : Nat) < 10), ?_⟩
  have ef : fz (rowD found) = frowD found := by
    show D.lst .frz (fzs (found.map natD)) = _
    rw [fzs_nat] <;> rfl
  show sSeq (sFor (iR2 (aCons (pe (pC (.int 1))) (aCons (pe (pVar 2)) (aNil)))) (tName 6) rdB) _ _ ⟨[some (.ptr a), some (.int m), some (natD (1 + k)), some (natD s), some (roadsD []), some (fz (rowD found)), none, none, none, none], (a, boxD p3 q r3) :: st0⟩
  rw [ef]
  refine ⟨rfl, rfl, ⟨by omega, by omega⟩, ⟨by omega, by omega⟩, ?_⟩
  have er : rng 1 ((1 + k : Nat) : Int) = ((List.range (1 + k)).drop 1).map natD := by
    unfold rng
    refine List.ext_getElem (by simp; omega) fun i h1 h2 => ?_
    simp
  show forL (tName 6) rdB _ (rng 1 ((1 + k : Nat) : Int)) ⟨[some (.ptr a), some (.int m), some (natD (1 + k)), some (natD s), some (roadsD []), some (frowD found), none, none, none, none], (a, boxD p3 q r3) :: st0⟩
  rw [er]
  have lf : found.length = 1 + k := by rw [pm.length_eq, List.length_range]
  refine roads_loop (n := 1 + k) (r0 := r3) (by omega) lf (by omega) q0 q1 (by omega) (by omega) (fun T p4 r4 c6 c7 c8 c9 g d1 d2 d3 => ?_) _ 1 [] p3 r3 none none none none rfl .one (by omega) c1 (by omega) (by omega)
  have gl := g.len
  refine ⟨rfl, nowns_roads T, sorts_road T (by omega), ?_⟩
  rw [sort_road]
  refine ⟨(by rw [sizeLine_eq]; simp), ?_⟩
  exact K (1 + k) (sortP T) p4 r4 (grown_good pm g (by omega) (by omega)) d1 (by omega) (by omega)
end Mf.L_k92
set_option Elab.async false
set_option linter.all false
set_option maxRecDepth 100000
set_option maxHeartbeats 1000000
namespace Mf.L_k92
open PySem PySem.Spec PyProof.Rows L2 PySem.SeqAt
/-! _law_very -/
def moreD : D := .str ("more" : Str)
theorem eq_str (x : Str) : eqD (.str x) (.str x) = true := by simp [eqD, toPy, PyData.eqv]
def sVery : DSp := fun ds st Q E =>
  (∃ d, ds = [d, d] ∧ flatD d = true ∧ ReprOk d ∧ Q (.bl true) st) ∨
  (∃ a xs st0, ds = [.ptr a, .ptr a] ∧ st = (a, .lst .own xs) :: st0 ∧ xs.length < 1000 ∧ ReprOk (.lst .own (xs ++ [moreD])) ∧ Q (.bl true) ((a, .lst .own xs) :: st0)) ∨
  ∃ a st0, ds = [.ptr a, .ptr a] ∧ st = (a, .dct .own []) :: st0 ∧ Q (.bl true) ((a, .dct .own []) :: st0)
abbrev b_very2 : SF := sEither b_law_very b_law_veryP
theorem very_flat {d : D} {st : Sto} {Q : D → Sto → Prop} {E : DX → Sto → Prop} (hf : flatD d = true) (hr : ReprOk d) (q : Q (.bl true) st) : b_law_very (spN Q E) (startE 3 [d, d] st) := by
  have e := eq_str (shD d)
  have fin : ∀ N : DN, N.nx = (spN Q E).nx → (eqD (.str (shD d)) (.str (shD d))) = true := fun _ _ => e
  cases d with
  | non =>
    refine ⟨hr, hr, rfl, rfl, rfl, (by decide : (2 : Nat) < 3), ?_⟩
    refine ⟨rfl, ?_⟩
    show Q (.bl (eqD (.str (shD .non)) (.str (shD .non)))) st
    rw [e]; exact q
  | bl b =>
    refine ⟨hr, hr, rfl, rfl, rfl, (by decide : (2 : Nat) < 3), ?_⟩
    refine ⟨rfl, ?_⟩
    show Q (.bl (eqD (.str (shD (.bl b))) (.str (shD (.bl b))))) st
    rw [e]; exact q
  | int i =>
    refine ⟨hr, hr, rfl, rfl, rfl, (by decide : (2 : Nat) < 3), ?_⟩
    refine ⟨rfl, ?_⟩
    show Q (.bl (eqD (.str (shD (.int i))) (.str (shD (.int i))))) st
    rw [e]; exact q
  | str x =>
    refine ⟨hr, hr, rfl, rfl, rfl, (by decide : (2 : Nat) < 3), ?_⟩
    refine ⟨rfl, ?_⟩
    show Q (.bl (eqD (.str (shD (.str x))) (.str (shD (.str x))))) st
    rw [e]; exact q
  | _ => simp [flatD] at hf
section
variable {a : Addr} {d : D} {st0 : Sto} {c : Option D}
theorem pP0 {Q : D → Prop} (q : Q d) : pPtr 0 ⟨[some (.ptr a), some (.ptr a), c], (a, d) :: st0⟩ Q := by
  show onO (getSt ((a, d) :: st0) a) _
  rw [getSt_self]
  exact q
theorem pP1 {Q : D → Prop} (q : Q d) : pPtr 1 ⟨[some (.ptr a), some (.ptr a), c], (a, d) :: st0⟩ Q := by
  show onO (getSt ((a, d) :: st0) a) _
  rw [getSt_self]
  exact q
theorem qP1 {K : D → (D → En) → Prop} (k : K d fun d' : D => ⟨[some (.ptr a), some (.ptr a), c], (a, d') :: st0⟩) : qPtr 1 ⟨[some (.ptr a), some (.ptr a), c], (a, d) :: st0⟩ K := by
  show onO (getSt ((a, d) :: st0) a) _
  rw [getSt_self]
  have e : (fun d' => (⟨[some (.ptr a), some (.ptr a), c], putSt ((a, d) :: st0) a d'⟩ : En)) = fun d' => ⟨[some (.ptr a), some (.ptr a), c], (a, d') :: st0⟩ := funext fun d' => by rw [putSt_self]
  show K d fun d' => ⟨[some (.ptr a), some (.ptr a), c], putSt ((a, d) :: st0) a d'⟩
  rw [e]
  exact k
end
theorem very_lst {a : Addr} {xs : List D} {st0 : Sto} {Q : D → Sto → Prop} {E : DX → Sto → Prop} (hl : xs.length < 1000) (hr : ReprOk (.lst .own (xs ++ [moreD]))) (q : Q (.bl true) ((a, .lst .own xs) :: st0)) : b_law_veryP (spN Q E) (startE 3 [.ptr a, .ptr a] ((a, .lst .own xs) :: st0)) := by
  show pPtr 1 ⟨[some (.ptr a), some (.ptr a), none], (a, .lst .own xs) :: st0⟩ _
  refine pP1 ?_
  show dMth "list" mAppend (qPtr 1) (paCons (pC moreD) paNil) ⟨[some (.ptr a), some (.ptr a), none], (a, .lst .own xs) :: st0⟩ _ (spN Q E).ex
  refine qP1 ⟨rfl, rfl, by rw [sizeLine_eq]; omega, ?_⟩
  show pPtr 1 ⟨[some (.ptr a), some (.ptr a), none], (a, .lst .own (xs ++ [moreD])) :: st0⟩ _
  refine pP1 ?_
  show pPtr 0 ⟨[some (.ptr a), some (.ptr a), none], (a, .lst .own (xs ++ [moreD])) :: st0⟩ _
  refine pP0 (.inl ⟨hr, ?_⟩)
  show pPtr 1 ⟨[some (.ptr a), some (.ptr a), none], (a, .lst .own (xs ++ [moreD])) :: st0⟩ _
  refine pP1 (.inl ⟨hr, ?_⟩)
  refine ⟨rfl, rfl, rfl, (by decide : (2 : Nat) < 3), ?_⟩
  show pPtr 1 ⟨[some (.ptr a), some (.ptr a), some (.bl (eqD (.str (shD (.lst .own (xs ++ [moreD])))) (.str (shD (.lst .own (xs ++ [moreD]))))))], (a, .lst .own (xs ++ [moreD])) :: st0⟩ _
  rw [eq_str]
  refine pP1 ?_
  show dMth0 "list" mPop (qPtr 1) ⟨[some (.ptr a), some (.ptr a), some (.bl true)], (a, .lst .own (xs ++ [moreD])) :: st0⟩ _ (spN Q E).ex
  refine qP1 ⟨rfl, ?_⟩
  have e1 : (xs ++ [moreD])[(xs ++ [moreD]).length - 1]? = some moreD := by simp
  have e2 : (xs ++ [moreD]).dropLast = xs := by simp
  show onO ((xs ++ [moreD])[(xs ++ [moreD]).length - 1]?) _
  rw [e1, e2]
  show pPtr 1 ⟨[some (.ptr a), some (.ptr a), some (.bl true)], (a, .lst .own xs) :: st0⟩ _
  refine pP1 ?_
  exact ⟨rfl, q⟩
theorem one_ok : OneOk (("more" : Str), 1) := by
  refine ⟨by decide +kernel, ?_⟩
  have : (oneR (("more" : Str), 1)).shown.length ≤ 100 := by decide +kernel
  rw [sizeLine_eq]
  omega
theorem very_dct {a : Addr} {st0 : Sto} {Q : D → Sto → Prop} {E : DX → Sto → Prop} (q : Q (.bl true) ((a, .dct .own []) :: st0)) : b_law_veryP (spN Q E) (startE 3 [.ptr a, .ptr a] ((a, .dct .own []) :: st0)) := by
  show pPtr 1 ⟨[some (.ptr a), some (.ptr a), none], (a, .dct .own []) :: st0⟩ _
  refine pP1 ?_
  show pPtr 1 ⟨[some (.ptr a), some (.ptr a), none], (a, .dct .own []) :: st0⟩ _
  refine pP1 ?_
  refine ⟨rfl, ?_⟩
  show qPtr 1 ⟨[some (.ptr a), some (.ptr a), none], (a, .dct .own []) :: st0⟩ _
  refine qP1 ?_
  have e1 : setD (.dct .own []) moreD (.int 1) = some (.dct .own [(.inr ("more" : Str), .int 1)]) := by
    show (if ([] : List (Key × D)).length < sizeLine ∧ (nown (.int 1) = true ∨ (([] : List (Key × D)).map (·.1)).Nodup) then _ else none) = _
    rw [if_pos ⟨by rw [sizeLine_eq]; simp, .inl rfl⟩] <;> rfl
  have k1 : ∀ K : D → Prop, K (.dct .own [(.inr ("more" : Str), .int 1)]) → onO (setD (.dct .own []) moreD (.int 1)) K := fun K k => by rw [e1]; exact k
  unfold pC
  refine k1 _ ?_
  show pPtr 0 ⟨[some (.ptr a), some (.ptr a), none], (a, .dct .own [(.inr ("more" : Str), .int 1)]) :: st0⟩ _
  refine pP0 (.inr ⟨_, rfl, one_ok, ?_⟩)
  show pPtr 1 ⟨[some (.ptr a), some (.ptr a), none], (a, .dct .own [(.inr ("more" : Str), .int 1)]) :: st0⟩ _
  refine pP1 (.inr ⟨_, rfl, one_ok, ?_⟩)
  refine ⟨rfl, rfl, rfl, (by decide : (2 : Nat) < 3), ?_⟩
  show pPtr 1 ⟨[some (.ptr a), some (.ptr a), some (.bl (eqD (.str (oneR (("more" : Str), 1)).shown) (.str (oneR (("more" : Str), 1)).shown)))], (a, .dct .own [(.inr ("more" : Str), .int 1)]) :: st0⟩ _
  rw [eq_str]
  refine pP1 ?_
  show pPtr 1 ⟨[some (.ptr a), some (.ptr a), some (.bl true)], (a, .dct .own [(.inr ("more" : Str), .int 1)]) :: st0⟩ _
  refine pP1 ?_
  show dMth "dict" mDPop (qPtr 1) (paCons (pC moreD) paNil) ⟨[some (.ptr a), some (.ptr a), some (.bl true)], (a, .dct .own [(.inr ("more" : Str), .int 1)]) :: st0⟩ _ (spN Q E).ex
  refine qP1 ⟨rfl, rfl, rfl, ?_⟩
  exact ⟨rfl, q⟩
theorem m_law_very : ∀ ds st Q E, sVery ds st Q E → b_very2 (spN Q E) (startE 3 ds st) := by
  rintro _ _ Q E (⟨d, rfl, hf, hr, q⟩ | ⟨a, xs, st0, rfl, rfl, hl, hr, q⟩ | ⟨a, st0, rfl, rfl, q⟩)
  · exact .inl (very_flat hf hr q)
  · exact .inr (very_lst hl hr q)
  · exact .inr (very_dct q)
end Mf.L_k92
set_option Elab.async false
set_option linter.all false
set_option maxRecDepth 100000
set_option maxHeartbeats 1000000
namespace Mf.L_k92
open PySem PySem.Spec PyProof.Rows L2 PySem.SeqAt
/-! _law_asked -/
def sAsked : DSp := fun ds st Q _ => ∃ h x, ds = [h, x] ∧ nown h = true ∧ nown x = true ∧
  ((BadHouses h ∧ Q (.lst .own [.str ("houses" : Str), fz h]) st) ∨ ∃ n : Nat, h = natD n ∧ 2 ≤ n ∧ n ≤ 64 ∧ BadRow n x ∧ Q (.lst .own [.str ("row" : Str), fz x]) st)
theorem exb1 : exb "InvalidHouses" "InvalidHouses" = true := by decide +kernel
theorem exb2 : exb "InvalidHouses" "InvalidRow" = false := by decide +kernel
theorem exb3 : exb "InvalidRow" "InvalidRow" = true := by decide +kernel
theorem m_law_asked : ∀ ds st Q E, sAsked ds st Q E → b_law_asked sTree (spN Q E) (startE 3 ds st) := by
  rintro _ st Q E ⟨h, x, rfl, nh, nx, ⟨bh, q⟩ | ⟨n, rfl, lo, hi, br, q⟩⟩
  · refine ⟨rfl, nh, nx, h, x, rfl, nh, nx, .inr (.inl ⟨bh, ?_⟩)⟩
    refine ⟨(by decide +kernel : ("InvalidHouses" : Str) ∈ EXC), ?_⟩
    show if exb "InvalidHouses" "InvalidHouses" = true then _ else _
    rw [if_pos exb1]
    intro a dd
    refine ⟨(by decide : (2 : Nat) < 3), ?_⟩
    refine ⟨rfl, ⟨rfl, fz h, rfl, Mf.nown_fz h, ?_⟩⟩
    exact ⟨(by rw [sizeLine_eq]; simp), q⟩
  · refine ⟨rfl, nh, nx, natD n, x, rfl, nh, nx, .inr (.inr ⟨n, rfl, lo, hi, br, ?_⟩)⟩
    refine ⟨(by decide +kernel : ("InvalidRow" : Str) ∈ EXC), ?_⟩
    show if exb "InvalidHouses" "InvalidRow" = true then _ else hand _ _ _ _
    rw [if_neg (by rw [exb2]; exact Bool.false_ne_true)]
    show if exb "InvalidRow" "InvalidRow" = true then _ else _
    rw [if_pos exb3]
    intro a dd
    refine ⟨(by decide : (2 : Nat) < 3), ?_⟩
    refine ⟨rfl, ⟨rfl, fz x, rfl, Mf.nown_fz x, ?_⟩⟩
    exact ⟨(by rw [sizeLine_eq]; simp), q⟩
/-! how long a list's text is -/
theorem from_le : ∀ (ts : List Str) (k : Nat) (acc : Str), (∀ t ∈ ts, t.length ≤ 20) → (textFrom k acc ts).length ≤ acc.length + 22 * ts.length
  | [], k, acc, _ => by show acc.length ≤ _; omega
  | t :: r, k, acc, h => by
    have h1 := from_le r (k + 1) (acc ++ (if k > 0 then ", " else "" : String) ++ t) fun x m => h x (.tail _ m)
    have h2 := h t (by simp)
    have h3 : ((if k > 0 then ", " else "" : String) : Str).length ≤ 2 := by
      split
      · decide +kernel
      · decide +kernel
    rw [len_app, len_app] at h1
    rw [List.length_cons]
    show (textFrom (k + 1) (acc ++ (if k > 0 then ", " else "" : String) ++ t) r).length ≤ _
    omega
def Small (d : D) : Prop := flatD d = true ∧ (toPy d).showable = true ∧ (toPy d).shown.length ≤ 20
theorem small_all : ∀ xs : List D, (∀ d ∈ xs, Small d) → PyData.showableAll (toPys xs) = true ∧ (∀ t ∈ PyData.shownAll (toPys xs), t.length ≤ 20) ∧ (PyData.shownAll (toPys xs)).length = xs.length ∧ xs.all (Pl 8) = true
  | [], _ => ⟨rfl, (fun _ m => nomatch m), rfl, rfl⟩
  | d :: xs, h => by
    obtain ⟨a, b, c, e⟩ := small_all xs fun d m => h d (.tail _ m)
    have hd := h d (by simp)
    have hp : Pl 8 d = true := by
      have := hd.1
      cases d <;> first | rfl | simp [flatD] at this
    refine ⟨?_, fun t m => ?_, ?_, ?_⟩
    · rw [toPys, PyData.showableAll, hd.2.1, a] <;> rfl
    · rw [toPys, PyData.shownAll] at m
      rcases List.mem_cons.mp m with rfl | m
      · exact hd.2.2
      · exact b t m
    · rw [toPys, PyData.shownAll, List.length_cons, List.length_cons, c]
    · rw [List.all_cons, hp, e] <;> rfl
theorem repr_lst {m : Mk} {xs : List D} (hl : xs.length ≤ 100) (h : ∀ d ∈ xs, Small d) : ReprOk (.lst m xs) := by
  obtain ⟨a, b, c, e⟩ := small_all xs h
  refine ⟨.inl ?_, ?_, ?_⟩
  · show xs.all (Pl 8) = true
    exact e
  · show PyData.showable (toPy (.lst m xs)) = true
    rw [toPy, PyData.showable]
    exact a
  · show (PyData.shown (toPy (.lst m xs))).length ≤ sizeLine
    rw [toPy, PyData.shown]
    unfold listText
    rw [len_app]
    have := from_le (PyData.shownAll (toPys xs)) 0 "[" b
    have e1 : ("[" : Str).length = 1 := by decide +kernel
    have e2 : ("]" : Str).length = 1 := by decide +kernel
    rw [sizeLine_eq]
    omega
theorem small_nat : ∀ k : Nat, k < 100 → Small (natD k) := by
  have : ∀ k : Nat, k < 100 → (toPy (natD k)).showable = true ∧ (toPy (natD k)).shown.length ≤ 20 := by decide +kernel
  exact fun k h => ⟨rfl, this k h⟩
theorem small_m1 : Small (.int (-1)) := ⟨rfl, by decide +kernel, by decide +kernel⟩
theorem small_tr : Small (.bl true) := ⟨rfl, by decide +kernel, by decide +kernel⟩
theorem small_0 : Small (.str ("0" : Str)) := ⟨rfl, by decide +kernel, by decide +kernel⟩
theorem small_more : Small moreD := ⟨rfl, by decide +kernel, by decide +kernel⟩
theorem repr_flat' {d : D} (hf : flatD d = true) (hs : (toPy d).showable = true) (hz : (toPy d).shown.length ≤ 4000) : ReprOk d := by
  cases d <;> first | exact ⟨.inl rfl, hs, by rw [sizeLine_eq]; exact Nat.le_trans hz (by decide)⟩ | simp [flatD] at hf
theorem mul_ok : ∀ k : Nat, k < 100 → MulOk ("0" : Str) k := by
  unfold MulOk
  decide +kernel
theorem mul_shown : ∀ k : Nat, k < 64 → (toPy (.str (Txt.mul ("0" : Str) k))).shown.length ≤ 4000 := by decide +kernel
end Mf.L_k92
set_option Elab.async false
set_option linter.all false
set_option maxRecDepth 100000
set_option maxHeartbeats 1000000
namespace Mf.L_k92
open PySem PySem.Spec PyProof.Rows L2 PySem.SeqAt
/-! _law_refused_right -/
def badL : List D := [.int 1, .int 0, .int 65, .bl true, .non, .str ("4" : Str), .lst .frz [.int 4], .int (-2)]
structure Bad (b : D) : Prop where
  houses : BadHouses b
  nown : nown b = true
  repr : ReprOk b
  frz : fz b = b
theorem repr_int {i : Int} (h : (toPy (.int i)).showable = true) (hz : (toPy (.int i)).shown.length ≤ 20) : ReprOk (.int i) := repr_flat' rfl h (by omega)
theorem bad_at {d : Int} (h0 : 0 ≤ d) (h : d < 8) : ∃ b, ixD (.lst .frz badL) (.int d) = some b ∧ Bad b := by
  obtain rfl | rfl | rfl | rfl | rfl | rfl | rfl | rfl : d = 0 ∨ d = 1 ∨ d = 2 ∨ d = 3 ∨ d = 4 ∨ d = 5 ∨ d = 6 ∨ d = 7 := by omega
  · exact ⟨.int 1, rfl, .inr ⟨1, rfl, by omega⟩, rfl, repr_int (by decide +kernel) (by decide +kernel), rfl⟩
  · exact ⟨.int 0, rfl, .inr ⟨0, rfl, by omega⟩, rfl, repr_int (by decide +kernel) (by decide +kernel), rfl⟩
  · exact ⟨.int 65, rfl, .inr ⟨65, rfl, by omega⟩, rfl, repr_int (by decide +kernel) (by decide +kernel), rfl⟩
  · exact ⟨.bl true, rfl, .inl ⟨rfl, rfl⟩, rfl, repr_flat' rfl (by decide +kernel) (by decide +kernel), rfl⟩
  · exact ⟨.non, rfl, .inl ⟨rfl, rfl⟩, rfl, repr_flat' rfl (by decide +kernel) (by decide +kernel), rfl⟩
  · exact ⟨.str ("4" : Str), rfl, .inl ⟨rfl, rfl⟩, rfl, repr_flat' rfl (by decide +kernel) (by decide +kernel), rfl⟩
  · exact ⟨.lst .frz [.int 4], rfl, .inl ⟨rfl, rfl⟩, rfl, repr_lst (by simp) fun d m => by rw [List.mem_singleton.mp m]; exact small_nat 4 (by omega), rfl⟩
  · exact ⟨.int (-2), rfl, .inr ⟨-2, rfl, by omega⟩, rfl, repr_int (by decide +kernel) (by decide +kernel), rfl⟩
/-- a wrong row -/
inductive Wr (n : Nat) : D → Prop
  | flat {w : D} (f : flatD w = true) (t : (tyS w).isSome = true) (l : isLstD w = false) (r : ReprOk w) : Wr n w
  | lst {xs : List D} (hl : xs.length ≤ 80) (h : ∀ d ∈ xs, Small d) (b : xs.length ≠ n - 2 ∨ ∃ d ∈ xs, isIdxD d n = false) : Wr n (.lst .frz xs)
  | dct : Wr n (.dct .frz [])
theorem Small.flat {d : D} (h : Small d) : (tyS d).isSome = true ∧ flatD d = true := by
  have := h.1
  cases d <;> first | exact ⟨rfl, rfl⟩ | simp [flatD] at this
theorem Wr.badRow {n : Nat} {w : D} (h : Wr n w) (a : Addr) : BadRow n (tagD a w) := by
  cases h with
  | flat f t l r =>
    have : tagD a w = w := by cases w <;> first | rfl | simp [flatD] at f
    rw [this]
    exact .inl ⟨t, l⟩
  | lst hl h b => exact .inr ⟨.tag a, _, rfl, nofun, by omega, fun d m => (h d m).flat, b⟩
  | dct => exact .inl ⟨rfl, rfl⟩
theorem Wr.own {n : Nat} {w : D} (h : Wr n w) (a : Addr) : nown (tagD a w) = true ∧ fz (tagD a w) = tagD a w := by
  cases h with
  | flat f t l r => cases w <;> first | exact ⟨rfl, rfl⟩ | simp [flatD] at f
  | lst hl h b => exact ⟨rfl, rfl⟩
  | dct => exact ⟨rfl, rfl⟩
/-- wrong == '' -/
theorem Wr.test {n : Nat} {w : D} (h : Wr n w) {Q : D → Prop} (q1 : Q (.bl true)) (q2 : Q (.bl false)) : oEqX w (.str ("" : Str)) Q := by
  have both : ∀ b : Bool, Q (.bl b) := fun b => by cases b <;> assumption
  cases h with
  | flat f t l r =>
    refine .inl ⟨?_, rfl, both _⟩
    cases w <;> first | rfl | simp [flatD] at f
  | lst hl h b =>
    refine .inl ⟨?_, rfl, both _⟩
    have := (small_all _ h).2.2.2
    exact this
  | dct => exact .inr ⟨rfl, q2⟩
theorem Wr.non {n : Nat} : Wr n .non := .flat rfl rfl rfl (repr_flat' rfl (by decide +kernel) (by decide +kernel))
theorem Wr.very {n : Nat} {w : D} (h : Wr n w) (a : Addr) {env : En} {Q : D → En → Prop} (q : Q (.bl true) env) :
    (∃ b xs, [tagD a w, tagD a w] = [.lst (.tag b) xs, .lst (.tag b) xs] ∧ xs.all flatD = true ∧ sVery [.ptr b, .ptr b] [(b, .lst .own xs)] (fun r st' => flatD r = true ∧ st' = [(b, .lst .own xs)] ∧ Q r env) fun _ _ => False) ∨
    (∃ b, [tagD a w, tagD a w] = [.dct (.tag b) [], .dct (.tag b) []] ∧ sVery [.ptr b, .ptr b] [(b, .dct .own [])] (fun r st' => flatD r = true ∧ st' = [(b, .dct .own [])] ∧ Q r env) fun _ _ => False) ∨
    [tagD a w, tagD a w].all flatD = true ∧ sVery [tagD a w, tagD a w] [] (fun r st' => flatD r = true ∧ st' = [] ∧ Q r env) fun _ _ => False := by
  cases h with
  | flat f t l r =>
    have e : tagD a w = w := by cases w <;> first | rfl | simp [flatD] at f
    rw [e]
    exact .inr (.inr ⟨by simp [f], .inl ⟨w, rfl, f, r, rfl, rfl, q⟩⟩)
  | @lst xs hl h b =>
    refine .inl ⟨a, xs, rfl, List.all_eq_true.mpr fun d m => (h d m).1, .inr (.inl ⟨a, xs, [], rfl, rfl, by omega, ?_, rfl, rfl, q⟩)⟩
    refine repr_lst (by rw [List.length_append]; simp only [List.length_cons, List.length_nil]; omega) fun d m => ?_
    rcases List.mem_append.mp m with m | m
    · exact h d m
    · rw [List.mem_singleton.mp m]; exact small_more
  | dct => exact .inr (.inl ⟨a, rfl, .inr (.inr ⟨a, [], rfl, rfl, rfl, rfl, q⟩)⟩)
def natsL (l : List Nat) : List D := l.map natD
def oddL (n : Nat) (row : List Nat) : List D :=
  [.non, .int 7, .dct .frz [], .lst .frz (natsL row ++ [.int 0]), (if row = [] then .non else .lst .frz (natsL row.tail)), .str (Txt.mul ("0" : Str) row.length), .lst .frz (natsL row.dropLast ++ [natD n]), .lst .frz (natsL row.dropLast ++ [.int (-1)]), .lst .frz (natsL row.dropLast ++ [.bl true]), .lst .frz (natsL row.dropLast ++ [.str ("0" : Str)])]
theorem odd_at {n : Nat} {row : List Nat} (rl : row.length + 2 = n) (hn : n ≤ 64) (hr : ∀ k ∈ row, k < n) {d : Int} (h0 : 0 ≤ d) (h : d < if row = [] then 6 else 10) : ∃ w, ixD (.lst .frz (oddL n row)) (.int d) = some w ∧ Wr n w := by
  have sm : ∀ l : List Nat, (∀ k ∈ l, k ∈ row) → ∀ d ∈ natsL l, Small d := fun l hl d m => by
    obtain ⟨k, mk, rfl⟩ := List.mem_map.mp m
    exact small_nat k (by have := hr k (hl k mk); omega)
  have app : ∀ (l : List Nat) (x : D), (∀ k ∈ l, k ∈ row) → Small x → ∀ d ∈ natsL l ++ [x], Small d := fun l x hl hx d m => by
    rcases List.mem_append.mp m with m | m
    · exact sm l hl d m
    · rw [List.mem_singleton.mp m]; exact hx
  have len : ∀ (l : List Nat) (x : D), (natsL l ++ [x]).length = l.length + 1 := fun l x => by simp [natsL]
  have drop : ∀ k ∈ row.dropLast, k ∈ row := fun k m => (List.dropLast_sublist row).subset m
  have last : ∀ x : D, Small x → isIdxD x n = false → row ≠ [] → Wr n (.lst .frz (natsL row.dropLast ++ [x])) := fun x hx hi hne => .lst (by rw [len, List.length_dropLast]; omega) (app _ _ drop hx) (.inr ⟨x, by simp, hi⟩)
  have ds : d = 0 ∨ d = 1 ∨ d = 2 ∨ d = 3 ∨ d = 4 ∨ d = 5 ∨ (row ≠ [] ∧ (d = 6 ∨ d = 7 ∨ d = 8 ∨ d = 9)) := by
    by_cases e : row = []
    · rw [if_pos e] at h; omega
    · rw [if_neg e] at h
      have : row ≠ [] := e
      have : d = 0 ∨ d = 1 ∨ d = 2 ∨ d = 3 ∨ d = 4 ∨ d = 5 ∨ d = 6 ∨ d = 7 ∨ d = 8 ∨ d = 9 := by omega
      simp [e]
      omega
  rcases ds with rfl | rfl | rfl | rfl | rfl | rfl | ⟨hne, rfl | rfl | rfl | rfl⟩
  · exact ⟨_, rfl, .non⟩
  · exact ⟨_, rfl, .flat rfl rfl rfl (repr_int (by decide +kernel) (by decide +kernel))⟩
  · exact ⟨_, rfl, .dct⟩
  · exact ⟨_, rfl, .lst (by rw [len]; omega) (app _ _ (fun _ m => m) (small_nat 0 (by omega))) (.inl (by rw [len]; omega))⟩
  · refine ⟨_, rfl, ?_⟩
    by_cases e : row = []
    · rw [if_pos e]; exact .non
    · rw [if_neg e]
      have : 0 < row.length := List.length_pos_iff.mpr e
      exact .lst (by simp [natsL]; omega) (sm _ fun k m => List.mem_of_mem_tail m) (.inl (by simp [natsL]; omega))
  · exact ⟨_, rfl, .flat rfl rfl rfl (repr_flat' rfl rfl (mul_shown _ (by omega)))⟩
  · exact ⟨_, rfl, last _ (small_nat n (by omega)) (by simp [isIdxD]) hne⟩
  · exact ⟨_, rfl, last _ small_m1 (by simp [isIdxD]) hne⟩
  · exact ⟨_, rfl, last _ small_tr rfl hne⟩
  · exact ⟨_, rfl, last _ small_0 rfl hne⟩
end Mf.L_k92
set_option Elab.async false
set_option linter.all false
set_option maxRecDepth 100000
set_option maxHeartbeats 1000000
namespace Mf.L_k92
open PySem PySem.Spec PyProof.Rows L2 PySem.SeqAt
def sRefused : DSp := fun ds st Q _ => ∃ (a : Addr) (n : Nat) (row : List Nat) (p q r : Int) (st0 : Sto), ds = [.ptr a, natD n, frowD row] ∧ st = (a, boxD p q r) :: st0 ∧ row.length + 2 = n ∧ n ≤ 64 ∧ (∀ k ∈ row, k < n) ∧ 0 ≤ p ∧ 0 ≤ q ∧ q < 2147483629 ∧ 0 ≤ r ∧ r < 900000 ∧
  ∀ p' r' : Int, 0 ≤ p' → r ≤ r' → r' ≤ r + 2 → Q (.bl true) ((a, boxD p' q r') :: st0)
abbrev rfTail (sp1 sp2 : DSp) : SF := sTag 5 (sSeq (sSetF 6 (dLst (aCons (dFn sp1 (aCons (pe (pVar 3)) (aCons (pe (pVar 5)) (aNil)))) (aCons (dFn sp1 (aCons (pe (pVar 1)) (aCons (pe (pVar 5)) (aNil)))) (aNil)))))
      (sSeq (sIf (bOr (bV (pe (pOp oNe (pIx (pIx (pVar 6) (pC (.int 0))) (pC (.int 0))) (pC (.str ("houses" : Str)))))) (bOr (bV (pe (pOp oNe (pCall cRepr (paCons (pIx (pIx (pVar 6) (pC (.int 0))) (pC (.int 1))) (paNil))) (pCall cRepr (paCons (pVar 3) (paNil)))))) (bV (pe (pOp oNe (pIx (pIx (pVar 6) (pC (.int 1))) (pC (.int 0))) (pC (.str ("row" : Str)))))))) (sRet (pe (pC (.bl false)))) (sNil))
      (sRet (dFnT sp2 (paCons (pIx (pIx (pVar 6) (pC (.int 1))) (pC (.int 1))) (paCons (pVar 5) (paNil)))))))
theorem ref_tail {n : Nat} {b w row od : D} {a : Addr} {st : Sto} {Q : D → Sto → Prop} {E : DX → Sto → Prop} (lo : 2 ≤ n) (hi : n ≤ 64) (hb : Bad b) (hw : Wr n w) (q : Q (.bl true) st) {c7 : Option D} :
    rfTail sAsked sVery (spN Q E) ⟨[some (.ptr a), some (natD n), some row, some b, some od, some w, c7], st⟩ := by
  intro ad
  have o := hw.own ad
  have br := hw.badRow ad
  show sSeq (sSetF 6 (dLst (aCons (dFn sAsked (aCons (pe (pVar 3)) (aCons (pe (pVar 5)) (aNil)))) (aCons (dFn sAsked (aCons (pe (pVar 1)) (aCons (pe (pVar 5)) (aNil)))) (aNil))))) _ _ ⟨[some (.ptr a), some (natD n), some row, some b, some od, some (tagD ad w), c7], st⟩
  refine ⟨hb.nown, o.1, b, tagD ad w, rfl, hb.nown, o.1, .inl ⟨hb.houses, ?_⟩⟩
  refine ⟨rfl, o.1, natD n, tagD ad w, rfl, rfl, o.1, .inr ⟨n, rfl, lo, hi, br, ?_⟩⟩
  refine ⟨(by rw [sizeLine_eq]; simp), (by decide : (6 : Nat) < 7), ?_⟩
  have e6 : fz (.lst .own [.lst .own [.str ("houses" : Str), fz b], .lst .own [.str ("row" : Str), fz (tagD ad w)]]) = .lst .frz [.lst .frz [.str ("houses" : Str), b], .lst .frz [.str ("row" : Str), tagD ad w]] := by
    show D.lst .frz [.lst .frz [.str ("houses" : Str), fz (fz b)], .lst .frz [.str ("row" : Str), fz (fz (tagD ad w))]] = _
    rw [hb.frz, hb.frz, o.2, o.2]
  show sSeq _ _ _ ⟨[some (.ptr a), some (natD n), some row, some b, some od, some (tagD ad w), some (fz (.lst .own [.lst .own [.str ("houses" : Str), fz b], .lst .own [.str ("row" : Str), fz (tagD ad w)]]))], st⟩
  rw [e6]
  refine ⟨rfl, rfl, rfl, ?_⟩
  show onB (.bl (!eqD (.str ("houses" : Str)) (.str ("houses" : Str)))) _
  rw [eq_str]
  refine ⟨hb.repr, hb.repr, rfl, rfl, rfl, ?_⟩
  show onB (.bl (!eqD (.str (shD b)) (.str (shD b)))) _
  rw [eq_str]
  refine ⟨rfl, rfl, rfl, ?_⟩
  show onB (.bl (!eqD (.str ("row" : Str)) (.str ("row" : Str)))) _
  rw [eq_str]
  exact hw.very ad (Q := fun d e => Q d e.st) q
theorem fzs_flat : ∀ xs : List D, xs.all flatD = true → fzs xs = xs
  | [], _ => rfl
  | d :: xs, h => by
    rw [List.all_cons, Bool.and_eq_true] at h
    rw [fzs, fzs_flat xs h.2]
    have : fz d = d := by
      have := h.1
      cases d <;> first | rfl | simp [flatD] at this
    rw [this]
theorem flat_nats (l : List Nat) : (natsL l).all flatD = true := by
  simp [natsL, List.all_map, flatD]
theorem flat_app (l : List Nat) (x : D) (h : flatD x = true) : fz (.lst .own (natsL l ++ [x])) = .lst .frz (natsL l ++ [x]) := by
  show D.lst .frz (fzs (natsL l ++ [x])) = _
  rw [fzs_flat _ (by rw [List.all_append, flat_nats]; simp [h])]
theorem flat_lst (l : List Nat) : fz (.lst .own (natsL l)) = .lst .frz (natsL l) := by
  show D.lst .frz (fzs (natsL l)) = _
  rw [fzs_flat _ (flat_nats l)]
theorem sl_tail (row : List Nat) : slD (frowD row) (some 1) none = some (.lst .own (natsL row.tail)) := by
  show (if nowns (row.map natD) = true then some (D.lst .own (cutD (row.map natD) (some 1) none)) else none) = _
  rw [if_pos (nowns_nat row)]
  congr 2
  unfold cutD
  have e : HT.sIx (row.map natD).length 0 (some 1) = min 1 (row.map natD).length := HT.sIx_nat _ _ 1
  rw [e, HT.sIx_none]
  cases row with
  | nil => rfl
  | cons k row =>
    have e2 : min 1 ((k :: row).map natD).length = 1 := by simp
    rw [e2]
    simp [natsL, List.take_of_length_le]
theorem sl_drop (row : List Nat) : slD (frowD row) none (some (-1)) = some (.lst .own (natsL row.dropLast)) := by
  show (if nowns (row.map natD) = true then some (D.lst .own (cutD (row.map natD) none (some (-1)))) else none) = _
  rw [if_pos (nowns_nat row)]
  congr 2
  unfold cutD
  have e : HT.sIx (row.map natD).length (row.map natD).length (some (-1)) = row.length - 1 := by
    show (if (-1 : Int) < 0 then ((-1 : Int) + ((row.map natD).length : Int)).toNat else min (-1 : Int).toNat (row.map natD).length) = _
    rw [if_pos (by omega), List.length_map]
    omega
  rw [e, HT.sIx_none]
  simp [natsL, List.dropLast_eq_take, List.map_take]
theorem eq_emptyF (l : List Nat) : eqD (frowD l) (.lst .frz []) = decide (l = []) := by
  cases l with
  | nil => decide +kernel
  | cons k l => simp [eqD, frowD, toPy, toPys, PyData.eqv, PyData.eqvAll]
theorem pl_frow (l : List Nat) : Pl 9 (frowD l) = true := by simp [frowD, Pl, List.all_map]
theorem m_law_refused_right : ∀ ds st Q E, sRefused ds st Q E → b_law_refused_right sTake sAsked sVery (spN Q E) (startE 7 ds st) := by
  rintro _ _ Q E ⟨a, n, row, p, q, r, st0, rfl, rfl, rl, hn, hr, p0, q0, q1, r0, r1, K⟩
  refine ⟨rfl, rfl, rfl, rfl, rfl, rfl, rfl, by rw [sizeLine_eq]; decide, rfl, by rw [sizeLine_eq]; decide, rfl, rfl, a, 8, p, q, r, st0, rfl, rfl, by omega, by omega, p0, q0, q1, by omega, by omega, fun d1 p1 r1 a1 a2 a3 a4 a5 => ?_⟩
  obtain ⟨b, eb, hb⟩ := bad_at a1 a2
  show onO (ixD (.lst .frz badL) (.int d1)) _
  rw [eb]
  refine ⟨(by decide : (3 : Nat) < 7), ?_⟩
  show sSeq _ _ _ ⟨[some (.ptr a), some (natD n), some (frowD row), some (fz b), none, none, none], (a, boxD p1 q r1) :: st0⟩
  rw [hb.frz]
  refine ⟨rfl, rfl, by rw [sizeLine_eq]; simp, rfl, nowns_nat row, rfl, by rw [List.length_map, sizeLine_eq]; simp; omega, ?_⟩
  refine ⟨Nat.zero_le _, rfl, pl_frow row, rfl, rfl, ?_⟩
  show onB (.bl (!eqD (frowD row) (.lst .frz []))) _
  rw [eq_emptyF]
  have fin : ∀ x : D, fz x = (if row = [] then .non else .lst .frz (natsL row.tail)) →
      sSeq (sSetF 5 (dIx (pe (pVar 4)) (dFn sTake (aCons (pe (pVar 0)) (aCons (dIf (bV (pe (pOp oNe (pVar 2) (pLst (paNil))))) (pe (pC (.int 10))) (pe (pC (.int 6)))) (aNil))))))
      (sSeq (sIf (bV (pe (pOp oEqX (pVar 5) (pC (.str ("" : Str)))))) (sSetF 5 (pe (pC .non))) (sNil)) (rfTail sAsked sVery)) (spN Q E)
      ⟨[some (.ptr a), some (natD n), some (frowD row), some b, some (fz (.lst .own [.non, .int 7, .dct .own [], .lst .own (natsL row ++ [.int 0]), x, .str (Txt.mul ("0" : Str) ((row.map natD).length : Nat)), .lst .own (natsL row.dropLast ++ [natD n]), .lst .own (natsL row.dropLast ++ [.int (-1)]), .lst .own (natsL row.dropLast ++ [.bl true]), .lst .own (natsL row.dropLast ++ [.str ("0" : Str)])])), none, none], (a, boxD p1 q r1) :: st0⟩ := by
    intro x ex
    have e4 : fz (.lst .own [.non, .int 7, .dct .own [], .lst .own (natsL row ++ [.int 0]), x, .str (Txt.mul ("0" : Str) ((row.map natD).length : Nat)), .lst .own (natsL row.dropLast ++ [natD n]), .lst .own (natsL row.dropLast ++ [.int (-1)]), .lst .own (natsL row.dropLast ++ [.bl true]), .lst .own (natsL row.dropLast ++ [.str ("0" : Str)])]) = .lst .frz (oddL n row) := by
      show D.lst .frz [.non, .int 7, .dct .frz [], fz (.lst .own (natsL row ++ [.int 0])), fz x, .str (Txt.mul ("0" : Str) ((row.map natD).length : Nat)), fz (.lst .own (natsL row.dropLast ++ [natD n])), fz (.lst .own (natsL row.dropLast ++ [.int (-1)])), fz (.lst .own (natsL row.dropLast ++ [.bl true])), fz (.lst .own (natsL row.dropLast ++ [.str ("0" : Str)]))] = _
      rw [flat_app _ _ rfl, flat_app _ _ rfl, flat_app _ _ rfl, flat_app _ _ rfl, flat_app _ _ rfl, ex, List.length_map] <;> rfl
    rw [e4]
    refine ⟨rfl, rfl, Nat.zero_le _, rfl, pl_frow row, rfl, rfl, ?_⟩
    show onB (.bl (!eqD (frowD row) (.lst .frz []))) _
    rw [eq_emptyF]
    have last : ∀ d p' r' : Int, 0 ≤ d → d < (if row = [] then 6 else 10) → 0 ≤ p' → r1 ≤ r' → r' ≤ r1 + 1 → onO (ixD (.lst .frz (oddL n row)) (.int d)) fun z => 5 < 7 ∧ sSeq (sIf (bV (pe (pOp oEqX (pVar 5) (pC (.str ("" : Str)))))) (sSetF 5 (pe (pC .non))) (sNil)) (rfTail sAsked sVery) (spN Q E) ⟨[some (.ptr a), some (natD n), some (frowD row), some b, some (.lst .frz (oddL n row)), some (fz z), none], (a, boxD p' q r') :: st0⟩ := by
      intro d p' r' h1 h2 h3 h4 h5
      obtain ⟨w, ew, hw⟩ := odd_at rl hn hr h1 h2
      rw [ew]
      refine ⟨by decide, ?_⟩
      have fw : fz w = w := by
        have := (hw.own 0).2
        cases hw with
        | flat f => cases w <;> first | rfl | simp [flatD] at f
        | lst => rfl
        | dct => rfl
      rw [fw]
      have qq := K p' r' h3 (by omega) (by omega)
      refine hw.test ?_ ?_
      · exact ⟨rfl, rfl, (by decide : (5 : Nat) < 7), ref_tail (by omega) hn hb .non qq⟩
      · exact ⟨rfl, ref_tail (by omega) hn hb hw qq⟩
    by_cases hne : row = []
    · rw [decide_eq_true hne]
      refine ⟨rfl, a, 6, p1, q, r1, st0, rfl, rfl, by omega, by omega, a3, q0, q1, by omega, by omega, fun d p' r' h1 h2 h3 h4 h5 => ?_⟩
      exact last d p' r' h1 (by rw [if_pos hne]; exact h2) h3 h4 h5
    · rw [decide_eq_false hne]
      refine ⟨rfl, a, 10, p1, q, r1, st0, rfl, rfl, by omega, by omega, a3, q0, q1, by omega, by omega, fun d p' r' h1 h2 h3 h4 h5 => ?_⟩
      exact last d p' r' h1 (by rw [if_neg hne]; exact h2) h3 h4 h5
  by_cases hne : row = []
  · rw [decide_eq_true hne]
    refine ⟨rfl, ?_⟩
    refine .inr ⟨by rw [List.length_map]; exact mul_ok _ (by omega), ?_⟩
    show onO (slD (frowD row) none (some (-1))) _
    rw [sl_drop]
    refine ⟨by rw [sizeLine_eq]; simp, rfl, nowns_nat row.dropLast, rfl, by show (natsL row.dropLast).length + _ ≤ _; rw [show (natsL row.dropLast).length = row.length - 1 by simp [natsL], sizeLine_eq]; simp; omega, ?_⟩
    show onO (slD (frowD row) none (some (-1))) _
    rw [sl_drop]
    refine ⟨by rw [sizeLine_eq]; simp, rfl, nowns_nat row.dropLast, rfl, by show (natsL row.dropLast).length + _ ≤ _; rw [show (natsL row.dropLast).length = row.length - 1 by simp [natsL], sizeLine_eq]; simp; omega, ?_⟩
    show onO (slD (frowD row) none (some (-1))) _
    rw [sl_drop]
    refine ⟨by rw [sizeLine_eq]; simp, rfl, nowns_nat row.dropLast, rfl, by show (natsL row.dropLast).length + _ ≤ _; rw [show (natsL row.dropLast).length = row.length - 1 by simp [natsL], sizeLine_eq]; simp; omega, ?_⟩
    show onO (slD (frowD row) none (some (-1))) _
    rw [sl_drop]
    refine ⟨by rw [sizeLine_eq]; simp, rfl, nowns_nat row.dropLast, rfl, by show (natsL row.dropLast).length + _ ≤ _; rw [show (natsL row.dropLast).length = row.length - 1 by simp [natsL], sizeLine_eq]; simp; omega, ?_⟩
    refine ⟨by rw [sizeLine_eq]; simp, (by decide : (4 : Nat) < 7), ?_⟩
    exact fin (.non) (by rw [if_pos hne]; rfl)
  · rw [decide_eq_false hne]
    show onO (slD (frowD row) (some 1) none) _
    rw [sl_tail]
    refine .inr ⟨by rw [List.length_map]; exact mul_ok _ (by omega), ?_⟩
    show onO (slD (frowD row) none (some (-1))) _
    rw [sl_drop]
    refine ⟨by rw [sizeLine_eq]; simp, rfl, nowns_nat row.dropLast, rfl, by show (natsL row.dropLast).length + _ ≤ _; rw [show (natsL row.dropLast).length = row.length - 1 by simp [natsL], sizeLine_eq]; simp; omega, ?_⟩
    show onO (slD (frowD row) none (some (-1))) _
    rw [sl_drop]
    refine ⟨by rw [sizeLine_eq]; simp, rfl, nowns_nat row.dropLast, rfl, by show (natsL row.dropLast).length + _ ≤ _; rw [show (natsL row.dropLast).length = row.length - 1 by simp [natsL], sizeLine_eq]; simp; omega, ?_⟩
    show onO (slD (frowD row) none (some (-1))) _
    rw [sl_drop]
    refine ⟨by rw [sizeLine_eq]; simp, rfl, nowns_nat row.dropLast, rfl, by show (natsL row.dropLast).length + _ ≤ _; rw [show (natsL row.dropLast).length = row.length - 1 by simp [natsL], sizeLine_eq]; simp; omega, ?_⟩
    show onO (slD (frowD row) none (some (-1))) _
    rw [sl_drop]
    refine ⟨by rw [sizeLine_eq]; simp, rfl, nowns_nat row.dropLast, rfl, by show (natsL row.dropLast).length + _ ≤ _; rw [show (natsL row.dropLast).length = row.length - 1 by simp [natsL], sizeLine_eq]; simp; omega, ?_⟩
    refine ⟨by rw [sizeLine_eq]; simp, (by decide : (4 : Nat) < 7), ?_⟩
    exact fin (.lst .own (natsL row.tail)) (by rw [if_neg hne, flat_lst])
end Mf.L_k92
set_option Elab.async false
set_option linter.all false
set_option maxRecDepth 100000
set_option maxHeartbeats 1000000
namespace Mf.L_k92
open PySem PySem.Spec PyProof.Rows L2 PySem.SeqAt
/-! the lines of all rows of few houses are unlike -/
def insP (p : Nat × Nat) : Rds → Rds
  | [] => [p]
  | q :: r => if leP p q = true then p :: q :: r else q :: insP p r
def isP : Rds → Rds
  | [] => []
  | p :: r => insP p (isP r)
theorem insP_perm (p : Nat × Nat) : ∀ T : Rds, List.Perm (insP p T) (p :: T)
  | [] => .refl _
  | q :: r => by
    unfold insP
    split
    · exact .refl _
    · exact ((insP_perm p r).cons q).trans (.swap ..)
theorem isP_perm : ∀ T : Rds, List.Perm (isP T) T
  | [] => .refl _
  | p :: r => (insP_perm p (isP r)).trans ((isP_perm r).cons p)
theorem leP_trans {p q r : Nat × Nat} (a : leP p q = true) (b : leP q r = true) : leP p r = true := by
  simp only [leP, decide_eq_true_eq] at a b ⊢
  omega
theorem leP_total {p q : Nat × Nat} (a : ¬ leP p q = true) : leP q p = true := by
  simp only [leP, decide_eq_true_eq] at a ⊢
  omega
theorem insP_sorted (p : Nat × Nat) : ∀ T : Rds, T.Pairwise (fun a b => leP a b = true) → (insP p T).Pairwise fun a b => leP a b = true
  | [], _ => by simp [insP]
  | q :: r, h => by
    obtain ⟨h1, h2⟩ := List.pairwise_cons.mp h
    unfold insP
    split
    · rename_i c
      refine List.pairwise_cons.mpr ⟨fun x m => ?_, h⟩
      rcases List.mem_cons.mp m with rfl | m
      · exact c
      · exact leP_trans c (h1 x m)
    · rename_i c
      refine List.pairwise_cons.mpr ⟨fun x m => ?_, insP_sorted p r h2⟩
      rcases List.mem_cons.mp ((insP_perm p r).subset m) with rfl | m
      · exact leP_total c
      · exact h1 x m
theorem isP_sorted : ∀ T : Rds, (isP T).Pairwise fun a b => leP a b = true
  | [] => .nil
  | p :: r => insP_sorted p _ (isP_sorted r)
theorem sort_isP (T : Rds) : sortP T = isP T :=
  List.Perm.eq_of_pairwise (le := fun p q => leP p q = true) (fun p q _ _ a b => leP_anti p q a b) (sortP_le T) (isP_sorted T) ((sortP_perm T).trans (isP_perm T).symm)
def lineF (n : Nat) (row : List Nat) : Str := lineS n (isP (dec (List.range n) row))
def code (s : Str) : Nat := s.cps.toList.foldl (fun a c => a * 256 + c) 1
theorem codes_nd : ∀ n : Nat, n < 6 → 2 ≤ n → ((allR n (n - 2)).map fun r => code (lineF n r)).Nodup := by decide +kernel
theorem ded_len : ∀ (xs acc : List Str), xs.Nodup → (∀ x ∈ xs, x ∉ acc) → (xs.foldl addS acc).length = acc.length + xs.length
  | [], acc, _, _ => by simp
  | x :: xs, acc, nd, h => by
    obtain ⟨n1, n2⟩ := List.nodup_cons.mp nd
    rw [List.foldl_cons]
    have e : addS acc x = acc ++ [x] := by
      unfold addS
      rw [if_neg (by simpa using h x (by simp))]
    rw [e, ded_len xs _ n2 fun y m z => ?_]
    · simp; omega
    · rcases List.mem_append.mp z with z | z
      · exact h y (.tail _ m) z
      · rw [List.mem_singleton.mp z] at m; exact n1 m
theorem lines_ded {n : Nat} (lo : 2 ≤ n) (hi : n ≤ 5) : (dedS ((allR n (n - 2)).map (lineF n))).length = (allR n (n - 2)).length := by
  have nd : ((allR n (n - 2)).map (lineF n)).Nodup := by
    have := codes_nd n (by omega) lo
    rw [show (fun r => code (lineF n r)) = code ∘ lineF n from rfl, ← List.map_map] at this
    exact (List.pairwise_map.mp this).imp fun h e => h (congrArg code e)
  unfold dedS
  rw [ded_len _ [] nd (fun _ _ m => nomatch m)]
  simp
end Mf.L_k92
set_option Elab.async false
set_option linter.all false
set_option maxRecDepth 100000
set_option maxHeartbeats 1000000
namespace Mf.L_k92
open PySem PySem.Spec PyProof.Rows L2 PySem.SeqAt
def unN : D → Nat
  | .int i => i.toNat
  | _ => 0
theorem unN_row (l : List Nat) : (l.map natD).map unN = l := by
  rw [List.map_map]
  have : (unN ∘ natD) = id := funext fun k => rfl
  rw [this, List.map_id]
theorem fzs_strs : ∀ ss : List Str, fzs (ss.map D.str) = ss.map D.str
  | [] => rfl
  | s :: ss => by rw [List.map_cons, fzs, fzs_strs ss] <;> rfl
theorem dec_row {n : Nat} {row : List Nat} (l : row.length + 2 = n) (h : ∀ k ∈ row, k < n) : Dec (List.range n) row (dec (List.range n) row) :=
  dec_ok row (List.range n) (up_range n) (by rw [List.length_range]; omega) fun g m => List.mem_range.mpr (h g m)
abbrev l1B : SF := sSeq (sSetF 2 (dFn sAllRows (aCons (pe (pVar 1)) (aNil))))
      (sSeq (sSetX true 3 (dLc [12] (iSeq (pe (pVar 2))) (tName 12) (bYes) (dMeth0 "Tree" "line" sLine (dFn sTree (aCons (pe (pVar 1)) (aCons (pe (pVar 12)) (aNil)))))))
      (sIf (bV (dOp oNe (dLenSet (pe (pVar 3))) (nCall cLen (paCons (pVar 2) (paNil))))) (sRet (pe (pC (.bl false)))) (sNil)))
theorem law_loop1 {N : DN} {st : Sto} {sc : D} (h : ∀ c1 c2 c3, N.nx ⟨[some sc, c1, c2, c3, none, none, none, none, none, none, none, none, none, none, none, none, none, none, none], st⟩) :
    ∀ (ks : List Nat) (c1 c2 c3 : Option D), (∀ k ∈ ks, 2 ≤ k ∧ k ≤ 5) → forL (tName 1) l1B N (ks.map natD) ⟨[some sc, c1, c2, c3, none, none, none, none, none, none, none, none, none, none, none, none, none, none, none], st⟩
  | [], c1, c2, c3, _ => h c1 c2 c3
  | n :: ks, c1, c2, c3, hk => by
    obtain ⟨lo, hi⟩ := hk n (by simp)
    have sm := allR_small (k := n - 2) hi (by omega)
    have al := (allR_len n (n - 2)).2
    refine ⟨(by decide : (1 : Nat) < 19), ?_⟩
    refine ⟨rfl, n, rfl, lo, hi, (by decide : (2 : Nat) < 19), ?_⟩
    refine ⟨rfl, rfl, ?_⟩
    show lcL [12] (tName 12) bYes (dMeth0 "Tree" "line" sLine (dFn sTree (aCons (pe (pVar 1)) (aCons (pe (pVar 12)) (aNil))))) ((allR n (n - 2)).map frowD) [] ⟨[some sc, some (natD n), some (rowsD (allR n (n - 2))), c3, none, none, none, none, none, none, none, none, none, none, none, none, none, none, none], st⟩ _
    refine lcL_pure (p := fun _ => true) (f := fun d => match d with | .lst _ xs => .str (lineF n (xs.map unN)) | _ => .non) (by decide : (12 : Nat) < 19) rfl _ [] (fun d m Qb q => q) (fun d m _ Qd q => ?_) (by rw [List.length_map, sizeLine_eq]; simp; omega) ?_
    · obtain ⟨row, mr, rfl⟩ := List.mem_map.mp m
      obtain ⟨rl, rn⟩ := al row mr
      have d := dec_row (n := n) (row := row) (by omega) rn
      have g := d.good (by omega)
      refine ⟨rfl, rfl, natD n, frowD row, rfl, rfl, rfl, .inl ⟨n, row, _, rfl, .inr ⟨.frz, rfl⟩, by omega, d, fun ws => ?_⟩⟩
      refine ⟨⟨rfl, rfl⟩, .own, n, sortP (dec (List.range n) row), ws, rfl, by omega, by have := g.len; omega, fun p m => by have := g.inr p m; omega, ?_⟩
      rw [sort_isP]
      have e : lineS n (isP (dec (List.range n) row)) = lineF n ((row.map natD).map unN) := by rw [unN_row] <;> rfl
      rw [e]
      exact q
    · rw [List.nil_append, List.filter_eq_self.mpr fun _ _ => rfl, List.map_map]
      have e : (allR n (n - 2)).map ((fun d => match d with | D.lst _ xs => D.str (lineF n (xs.map unN)) | _ => .non) ∘ frowD) = ((allR n (n - 2)).map (lineF n)).map D.str := by
        rw [List.map_map]
        refine List.map_congr_left fun row _ => ?_
        show D.str (lineF n ((row.map natD).map unN)) = D.str (lineF n row)
        rw [unN_row]
      rw [e]
      refine ⟨(by decide : (3 : Nat) < 19), ?_⟩
      refine ⟨rfl, ?_⟩
      refine ⟨(allR n (n - 2)).map (lineF n), fzs_strs _, by rw [List.length_map]; omega, ?_⟩
      rw [lines_ded lo hi]
      refine ⟨rfl, rfl, ?_⟩
      have e2 : eqD (.int ((allR n (n - 2)).length : Nat)) (.int (((allR n (n - 2)).map frowD).length : Nat)) = true := by rw [eq_int, List.length_map]; simp
      show onB (.bl (!eqD (.int ((allR n (n - 2)).length : Nat)) (.int (((allR n (n - 2)).map frowD).length : Nat)))) _
      rw [e2]
      exact law_loop1 h ks _ _ _ fun k m => hk k (.tail _ m)
end Mf.L_k92
set_option Elab.async false
set_option linter.all false
set_option maxRecDepth 100000
set_option maxHeartbeats 1000000
namespace Mf.L_k92
open PySem PySem.Spec PyProof.Rows L2 PySem.SeqAt
theorem fzs_tups : ∀ a : List (List Nat), fzs (a.map tupN) = a.map tupN
  | [] => rfl
  | l :: a => by
    rw [List.map_cons, fzs, fzs_tups a]
    show fz (.tup (l.map natD)) :: _ = _
    rw [fz, fzs_nat] <;> rfl
theorem fzs_ways : ∀ ws : List Fs, fzs (ws.map fun f => D.tup (f.map tupN)) = ws.map fun f => D.tup (f.map tupN)
  | [] => rfl
  | f :: ws => by
    rw [List.map_cons, fzs, fzs_ways ws, fz, fzs_tups]
theorem fzs_roads (rs : Rds) : fzs (rs.map roadD) = rs.map roadD := by rw [← cast_map, fz_pairs]
theorem fz_tree (n : Nat) (rs : Rds) (ws : List Fs) : fz (trD .own n rs ws) = trD .frz n rs ws := by
  show D.ins .frz "Tree" [("houses", natD n), ("roads", fz (.tup (rs.map roadD))), ("near", fz (.tup ((nearN n rs).map tupN))), ("ways", fz (.tup (ws.map fun f => .tup (f.map tupN))))] = _
  rw [fz, fz, fz, fzs_roads, fzs_tups, fzs_ways] <;> rfl
theorem fz_roads (rs : Rds) : fz (.lst .own (rs.map roadD)) = .lst .frz (rs.map roadD) := by
  show D.lst .frz (fzs (rs.map roadD)) = _
  rw [fzs_roads]
theorem fz_row (l : List Nat) : fz (rowD l) = frowD l := by
  show D.lst .frz (fzs (l.map natD)) = _
  rw [fzs_nat] <;> rfl
theorem fz_adj (a : Fs) : fz (adjD a) = .lst .frz (a.map frowD) := by
  show D.lst .frz (fzs (a.map rowD)) = _
  rw [fzs_rows]
abbrev bB : SF := sAsg (dTup (aCons (dMake "Tree" sInit (aCons (pe (pVar 1)) (aCons (pe (pVar 7)) (aNil)))) (aCons (dFn sNear (aCons (pe (pVar 1)) (aCons (pe (pVar 7)) (aNil)))) (aNil)))) (tTupT 2 (tsCons (tNameF 10) (tsCons (tNameF 11) (tsNil))))
abbrev bC : SF := sSetF 12 (dFn sRowOf (aCons (pe (pVar 10)) (aNil)))
abbrev bD : SF := sIf (bOr (bNot (bV (dFn sIs2 (aCons (pe (pVar 12)) (aCons (dFn sLawRow (aCons (pe (pVar 1)) (aCons (pe (pVar 7)) (aNil)))) (aNil)))))) (bNot (bV (dEqE "Tree" sEq (dFn sTree (aCons (pe (pVar 1)) (aCons (nCall cTuple (paCons (pVar 12) (paNil))) (aNil)))) (pVar 10))))) (sRet (pe (pC (.bl false)))) (sNil)
abbrev bE : SF := sIf (bV (dOp oNe (dLc [16] (iR1 (aCons (pe (pVar 1)) (aNil))) (tName 16) (bV (dOp oNe (dCall cLen (aCons (dLc [17] (iSeq (pe (pVar 12))) (tName 17) (bV (pe (pOp oEq (pVar 17) (pVar 16)))) (pe (pVar 17))) (aNil))) (nOp oSub (pCall cLen (paCons (pIx (pVar 11) (pVar 16)) (paNil))) (pC (.int 1))))) (pe (pVar 16))) (dLst (aNil)))) (sRet (pe (pC (.bl false)))) (sNil)
abbrev bF : SF := sSetX true 13 (dLc [18] (iR1 (aCons (nOp oSub (pVar 1) (pC (.int 2))) (aNil))) (tName 18) (bYes) (dFn sTake (aCons (pe (pVar 5)) (aCons (pe (pVar 1)) (aNil)))))
abbrev bG : SF := sSetF 14 (nCall cRepr (paCons (pVar 13) (paNil)))
abbrev bH : SF := sSetF 15 (dFn sTree (aCons (pe (pVar 1)) (aCons (pe (pVar 13)) (aNil))))
abbrev bI : SF := sIf (bOr (bV (pe (pOp oNe (pFld "Tree" "houses" (pVar 15)) (pVar 1)))) (bOr (bNot (bV (dFn sIs2 (aCons (dFn sRowOf (aCons (pe (pVar 15)) (aNil))) (aCons (pe (pVar 13)) (aNil)))))) (bOr (bNot (bV (dFn sIs2 (aCons (dFn sLawRow (aCons (pe (pVar 1)) (aCons (nCall cList (paCons (pFld "Tree" "roads" (pVar 15)) (paNil))) (aNil)))) (aCons (pe (pVar 13)) (aNil)))))) (bV (pe (pOp oNe (pCall cRepr (paCons (pVar 13) (paNil))) (pVar 14))))))) (sRet (pe (pC (.bl false)))) (sNil)
abbrev bJ : SF := sIf (bNot (bV (dFn sRefused (aCons (pe (pVar 5)) (aCons (pe (pVar 1)) (aCons (pe (pVar 13)) (aNil))))))) (sRet (pe (pC (.bl false)))) (sNil)
section
variable {N : DN} {a : Addr} {st : Sto} {n : Nat} {rs : Rds} {ws : List Fs} {row : List Nat} {T : Rds} {e0 e4 e6 : D} {c2 c3 c8 c9 c10 c11 c12 c13 c14 c15 : Option D}
theorem rs_len (g : Good n rs) : rs.length < 100 := by have := g.len; have := g.hi; omega
theorem part_B (g : Good n rs) (h : ∀ ws, N.nx ⟨[some e0, some (natD n), c2, c3, some e4, some (.ptr a), some e6, some (.lst .frz (rs.map roadD)), c8, c9, some (trD .frz n rs ws), some (.lst .frz ((nearN n rs).map frowD)), c12, c13, c14, c15, none, none, none], st⟩) :
    bB N ⟨[some e0, some (natD n), c2, c3, some e4, some (.ptr a), some e6, some (.lst .frz (rs.map roadD)), c8, c9, c10, c11, c12, c13, c14, c15, none, none, none], st⟩ := by
  have hi := g.hi
  refine ⟨rfl, rfl, fun ad => ⟨ad, n, _, rs, st, rfl, rfl, .inr ⟨.frz, rfl⟩, g, fun ws => ⟨rfl, ?_⟩⟩⟩
  show onO (getSt ((ad, tI (treeF n rs ws)) :: st) ad) _
  rw [getSt_self]
  have e1 : dropSt ((ad, tI (treeF n rs ws)) :: st) ad = st := by simp [dropSt]
  refine ⟨rfl, rfl, n, _, rs, rfl, .inr ⟨.frz, rfl⟩, rfl, by omega, rs_len g, g.rng, ?_⟩
  refine ⟨by rw [sizeLine_eq]; simp, rfl, (by decide : (10 : Nat) < 19), (by decide : (11 : Nat) < 19), ?_⟩
  show N.nx ⟨[some e0, some (natD n), c2, c3, some e4, some (.ptr a), some e6, some (.lst .frz (rs.map roadD)), c8, c9, some (fz (trD .own n rs ws)), some (fz (adjD (nearN n rs))), c12, c13, c14, c15, none, none, none], dropSt ((ad, tI (treeF n rs ws)) :: st) ad⟩
  rw [e1, fz_tree, fz_adj]
  exact h ws
theorem part_C (g : Good n rs) (lo : 2 ≤ n) (d : Dec (List.range n) row T) (p : List.Perm T rs) (h : N.nx ⟨[some e0, some (natD n), c2, c3, some e4, some (.ptr a), some e6, some (.lst .frz (rs.map roadD)), c8, c9, some (trD .frz n rs ws), c11, some (frowD row), c13, c14, c15, none, none, none], st⟩) :
    bC N ⟨[some e0, some (natD n), c2, c3, some e4, some (.ptr a), some e6, some (.lst .frz (rs.map roadD)), c8, c9, some (trD .frz n rs ws), c11, c12, c13, c14, c15, none, none, none], st⟩ := by
  refine ⟨rfl, .frz, n, rs, ws, rfl, g, fun e => absurd e (by omega), fun _ => ⟨row, T, d, p, (by decide : (12 : Nat) < 19), ?_⟩⟩
  show N.nx ⟨[some e0, some (natD n), c2, c3, some e4, some (.ptr a), some e6, some (.lst .frz (rs.map roadD)), c8, c9, some (trD .frz n rs ws), c11, some (fz (rowD row)), c13, c14, c15, none, none, none], st⟩
  rw [fz_row]
  exact h
theorem part_D (g : Good n rs) (lo : 2 ≤ n) (d : Dec (List.range n) row T) (p : List.Perm T rs) (h : N.nx ⟨[some e0, some (natD n), c2, c3, some e4, some (.ptr a), some e6, some (.lst .frz (rs.map roadD)), c8, c9, some (trD .frz n rs ws), c11, some (frowD row), c13, c14, c15, none, none, none], st⟩) :
    bD N ⟨[some e0, some (natD n), c2, c3, some e4, some (.ptr a), some e6, some (.lst .frz (rs.map roadD)), c8, c9, some (trD .frz n rs ws), c11, some (frowD row), c13, c14, c15, none, none, none], st⟩ := by
  have hi := g.hi
  have dl := d.len.1
  rw [List.length_range] at dl
  refine ⟨rfl, rfl, rfl, n, _, rs, row, T, rfl, .inr ⟨.frz, rfl⟩, hi, fun q m => g.inr q m, rs_len g, d, p, .inr ⟨.frz, .own, row, rfl, by omega, ?_⟩⟩
  refine ⟨rfl, nowns_nat row, natD n, .tup (row.map natD), rfl, rfl, nowns_nat row, .inl ⟨n, row, T, rfl, .inl rfl, hi, d, fun ws' => ?_⟩⟩
  rw [g.back p]
  refine ⟨rfl, rfl, .frz, .frz, n, rs, ws', ws, ?_, rfl, true, rfl, ?_⟩
  · show [fz (trD .own n rs ws'), trD .frz n rs ws] = _
    rw [fz_tree]
  · exact h
end
end Mf.L_k92
set_option Elab.async false
set_option linter.all false
set_option maxRecDepth 100000
set_option maxHeartbeats 1000000
namespace Mf.L_k92
open PySem PySem.Spec PyProof.Rows L2 PySem.SeqAt
section
variable {N : DN} {a : Addr} {st : Sto} {n : Nat} {rs : Rds} {ws : List Fs} {row : List Nat} {T : Rds} {e0 e4 e6 : D} {c2 c3 c7 c8 c9 c10 c11 c12 c13 c14 c15 : Option D}
theorem deg_near {h : Nat} (g : Good n rs) (d : Dec (List.range n) row T) (p : List.Perm T rs) (hn : h < n) : ((nearN n rs).getD h []).length = row.count h + 1 := by
  rw [(near_nbrs g.inr h).length_eq, ← (nbrs_perm p h).length_eq, d.deg h, if_pos (List.mem_range.mpr hn)]
theorem part_E (g : Good n rs) (d : Dec (List.range n) row T) (p : List.Perm T rs) (h : N.nx ⟨[some e0, some (natD n), c2, c3, some e4, some (.ptr a), some e6, c7, c8, c9, c10, some (.lst .frz ((nearN n rs).map frowD)), some (frowD row), c13, c14, c15, none, none, none], st⟩) :
    bE N ⟨[some e0, some (natD n), c2, c3, some e4, some (.ptr a), some e6, c7, c8, c9, c10, some (.lst .frz ((nearN n rs).map frowD)), some (frowD row), c13, c14, c15, none, none, none], st⟩ := by
  have hi := g.hi
  have nl := near_len n rs
  have dl := d.len.1
  rw [List.length_range] at dl
  refine ⟨rfl, ⟨by omega, by omega⟩, ?_⟩
  show lcL [16] (tName 16) (bV (dOp oNe (dCall cLen (aCons (dLc [17] (iSeq (pe (pVar 12))) (tName 17) (bV (pe (pOp oEq (pVar 17) (pVar 16)))) (pe (pVar 17))) (aNil))) (nOp oSub (pCall cLen (paCons (pIx (pVar 11) (pVar 16)) (paNil))) (pC (.int 1))))) (pe (pVar 16)) (rng 0 (n : Int)) [] ⟨[some e0, some (natD n), c2, c3, some e4, some (.ptr a), some e6, c7, c8, c9, c10, some (.lst .frz ((nearN n rs).map frowD)), some (frowD row), c13, c14, c15, none, none, none], st⟩ _
  rw [rng0]
  refine lcL_pure (p := fun _ => false) (f := fun d => d) (by decide : (16 : Nat) < 19) rfl _ [] (fun d' m Qb q => ?_) (fun d m h Qd q => nomatch h) (by rw [List.length_map, List.length_range, sizeLine_eq]; simp; omega) ?_
  · obtain ⟨k, hk, rfl⟩ := List.mem_map.mp m
    have hk := List.mem_range.mp hk
    refine ⟨rfl, rfl, ?_⟩
    show lcL [17] (tName 17) (bV (pe (pOp oEq (pVar 17) (pVar 16)))) (pe (pVar 17)) (row.map natD) [] ⟨[some e0, some (natD n), c2, c3, some e4, some (.ptr a), some e6, c7, c8, c9, c10, some (.lst .frz ((nearN n rs).map frowD)), some (frowD row), c13, c14, c15, some (natD k), none, none], st⟩ _
    refine lcL_pure (p := fun d => match d with | .int i => decide (i = (k : Int)) | _ => false) (f := fun d => d) (by decide : (17 : Nat) < 19) rfl _ [] (fun d m Qb q => ?_) (fun d m _ Qd q => by obtain ⟨i, _, rfl⟩ := List.mem_map.mp m; exact ⟨rfl, q⟩) (by rw [List.length_map, sizeLine_eq]; simp; omega) ?_
    · obtain ⟨i, hi, rfl⟩ := List.mem_map.mp m
      refine ⟨rfl, rfl, rfl, ?_⟩
      show Qb (eqD (natD i) (natD k)) _
      rw [eq_int]
      exact q
    · rw [List.nil_append, List.map_id'' (fun _ => rfl), filt_nat (P := fun i => decide (i = k)) fun i _ => decide_eq_decide.mpr (by omega)]
      have e : (row.filter fun i => decide (i = k)).length = row.count k := by
        rw [List.count, List.countP_eq_length_filter]
        congr 1
      have ix : ixD (.lst .frz ((nearN n rs).map frowD)) (natD k) = some (frowD ((nearN n rs).getD k [])) := by
        have e := atI_in (xs := (nearN n rs).map frowD) (i := (k : Int)) (z := frowD []) (by omega) (by rw [List.length_map, nl]; exact hk)
        show atI ((nearN n rs).map frowD) (k : Int) = _
        rw [e]
        simp [List.getD, List.getElem?_map, List.getElem?_eq_getElem (show k < (nearN n rs).length by omega)]
      show onO (ixD (.lst .frz ((nearN n rs).map frowD)) (natD k)) _
      rw [ix]
      refine ⟨trivial, rfl, rfl, ?_⟩
      have e3 : eqD (.int (((row.filter fun i => decide (i = k)).map natD).length : Nat)) (.int (((((nearN n rs).getD k []).map natD).length : Nat) - 1)) = true := by
        rw [eq_int, List.length_map, List.length_map, e, deg_near g d p hk]
        simp
      show Qb (!eqD (.int (((row.filter fun i => decide (i = k)).map natD).length : Nat)) (.int (((((nearN n rs).getD k []).map natD).length : Nat) - 1))) _
      rw [e3]
      exact q
  · have ff : ∀ l : List D, l.filter (fun _ => false) = [] := fun l => by simp
    rw [List.nil_append, ff]
    refine ⟨Nat.zero_le _, rfl, rfl, ?_⟩
    have e3 : eqD (.lst .own []) (.lst .own []) = true := by decide +kernel
    show onB (.bl (!eqD (.lst .own []) (.lst .own []))) _
    rw [e3]
    exact h
theorem drawn_loop {q r0 : Int} {st0 : Sto} (lo : 2 ≤ n) (hi : n ≤ 64) (q0 : 0 ≤ q) (q1 : q < 2147483629) (r00 : 0 ≤ r0) (rb : r0 < 800000) {K : List D → En → Prop} {m : Nat}
    (h : ∀ (l : List Nat) p' r', l.length = m → (∀ k ∈ l, k < n) → 0 ≤ p' → r0 ≤ r' → r' ≤ r0 + m → K (l.map natD) ⟨[some e0, some (natD n), c2, c3, some e4, some (.ptr a), some e6, c7, c8, c9, c10, c11, c12, c13, c14, c15, none, none, none], (a, boxD p' q r') :: st0⟩) :
    ∀ (ds : List D) (acc : List Nat) (p r : Int), acc.length + ds.length = m → m < 1000 → (∀ k ∈ acc, k < n) → 0 ≤ p → r0 ≤ r → r ≤ r0 + acc.length →
    lcL [18] (tName 18) bYes (dFn sTake (aCons (pe (pVar 5)) (aCons (pe (pVar 1)) (aNil)))) ds (acc.map natD) ⟨[some e0, some (natD n), c2, c3, some e4, some (.ptr a), some e6, c7, c8, c9, c10, c11, c12, c13, c14, c15, none, none, none], (a, boxD p q r) :: st0⟩ K
  | [], acc, p, r, l, _, hk, p0, h1, h2 => by
    have l : acc.length = m := by simpa using l
    exact h acc p r l hk p0 h1 (by omega)
  | d :: ds, acc, p, r, l, hm, hk, p0, h1, h2 => by
    rw [List.length_cons] at l
    refine ⟨(by decide : (18 : Nat) < 19), ?_⟩
    refine ⟨rfl, rfl, a, n, p, q, r, st0, rfl, rfl, by omega, by omega, p0, q0, q1, by omega, by omega, fun d1 p1 r1 a1 a2 a3 a4 a5 => ?_⟩
    obtain ⟨k, rfl⟩ := Int.eq_ofNat_of_zero_le a1
    refine ⟨by rw [List.length_map, sizeLine_eq]; omega, ?_⟩
    have e : acc.map natD ++ [natD k] = (acc ++ [k]).map natD := by simp
    show lcL [18] (tName 18) bYes (dFn sTake (aCons (pe (pVar 5)) (aCons (pe (pVar 1)) (aNil)))) ds (acc.map natD ++ [natD k]) ⟨[some e0, some (natD n), c2, c3, some e4, some (.ptr a), some e6, c7, c8, c9, c10, c11, c12, c13, c14, c15, none, none, none], (a, boxD p1 q r1) :: st0⟩ K
    rw [e]
    refine drawn_loop lo hi q0 q1 r00 rb h ds (acc ++ [k]) p1 r1 (by rw [List.length_append]; simp only [List.length_cons, List.length_nil]; omega) hm (fun x mx => ?_) a3 (by omega) (by rw [List.length_append]; simp only [List.length_cons, List.length_nil]; omega)
    rcases List.mem_append.mp mx with mx | mx
    · exact hk x mx
    · rw [List.mem_singleton.mp mx]; omega
theorem part_F {p q r : Int} {st0 : Sto} (lo : 2 ≤ n) (hi : n ≤ 64) (p0 : 0 ≤ p) (q0 : 0 ≤ q) (q1 : q < 2147483629) (r00 : 0 ≤ r) (rb : r < 800000)
    (h : ∀ (l : List Nat) p' r', l.length + 2 = n → (∀ k ∈ l, k < n) → 0 ≤ p' → r ≤ r' → r' ≤ r + n → N.nx ⟨[some e0, some (natD n), c2, c3, some e4, some (.ptr a), some e6, c7, c8, c9, c10, c11, c12, some (frowD l), c14, c15, none, none, none], (a, boxD p' q r') :: st0⟩) :
    bF N ⟨[some e0, some (natD n), c2, c3, some e4, some (.ptr a), some e6, c7, c8, c9, c10, c11, c12, c13, c14, c15, none, none, none], (a, boxD p q r) :: st0⟩ := by
  refine ⟨trivial, ⟨by omega, by omega⟩, ?_⟩
  refine drawn_loop (m := n - 2) lo hi q0 q1 r00 rb (fun l p' r' hl hk b1 b2 b3 => ?_) _ [] p r (by rw [rng_length]; simp; omega) (by omega) (fun _ m => nomatch m) p0 (Int.le_refl _) (by simp)
  refine ⟨(by decide : (13 : Nat) < 19), ?_⟩
  show N.nx ⟨[some e0, some (natD n), c2, c3, some e4, some (.ptr a), some e6, c7, c8, c9, c10, c11, c12, some (fz (rowD l)), c14, c15, none, none, none], (a, boxD p' q r') :: st0⟩
  rw [fz_row]
  exact h l p' r' (by omega) hk b1 b2 (by omega)
end
end Mf.L_k92
set_option Elab.async false
set_option linter.all false
set_option maxRecDepth 100000
set_option maxHeartbeats 1000000
namespace Mf.L_k92
open PySem PySem.Spec PyProof.Rows L2 PySem.SeqAt
theorem repr_frow {l : List Nat} (hl : l.length ≤ 100) (h : ∀ k ∈ l, k < 100) : ReprOk (frowD l) := repr_lst (by rw [List.length_map]; exact hl) fun d m => by
  obtain ⟨k, mk, rfl⟩ := List.mem_map.mp m
  exact small_nat k (h k mk)
section
variable {N : DN} {a : Addr} {st : Sto} {n : Nat} {rs : Rds} {ws : List Fs} {row : List Nat} {T : Rds} {e0 e4 e6 : D} {c2 c3 c7 c8 c9 c10 c11 c12 c13 c14 c15 : Option D}
theorem part_G (rl : row.length + 2 = n) (hi : n ≤ 64) (rn : ∀ k ∈ row, k < n) (h : N.nx ⟨[some e0, some (natD n), c2, c3, some e4, some (.ptr a), some e6, c7, c8, c9, c10, c11, c12, some (frowD row), some (.str (shD (frowD row))), c15, none, none, none], st⟩) :
    bG N ⟨[some e0, some (natD n), c2, c3, some e4, some (.ptr a), some e6, c7, c8, c9, c10, c11, c12, some (frowD row), c14, c15, none, none, none], st⟩ :=
  ⟨repr_frow (by omega) (fun k m => by have := rn k m; omega), (by decide : (14 : Nat) < 19), h⟩
theorem part_H (rl : row.length + 2 = n) (hi : n ≤ 64) (rn : ∀ k ∈ row, k < n) (h : ∀ ws, N.nx ⟨[some e0, some (natD n), c2, c3, some e4, some (.ptr a), some e6, c7, c8, c9, c10, c11, c12, some (frowD row), c14, some (trD .frz n (sortP (dec (List.range n) row)) ws), none, none, none], st⟩) :
    bH N ⟨[some e0, some (natD n), c2, c3, some e4, some (.ptr a), some e6, c7, c8, c9, c10, c11, c12, some (frowD row), c14, c15, none, none, none], st⟩ := by
  refine ⟨rfl, rfl, natD n, frowD row, rfl, rfl, rfl, .inl ⟨n, row, _, rfl, .inr ⟨.frz, rfl⟩, hi, dec_row rl rn, fun ws => ⟨(by decide : (15 : Nat) < 19), ?_⟩⟩⟩
  show N.nx ⟨[some e0, some (natD n), c2, c3, some e4, some (.ptr a), some e6, c7, c8, c9, c10, c11, c12, some (frowD row), c14, some (fz (trD .own n (sortP (dec (List.range n) row)) ws)), none, none, none], st⟩
  rw [fz_tree]
  exact h ws
theorem part_I (rl : row.length + 2 = n) (hi : n ≤ 64) (rn : ∀ k ∈ row, k < n) (h : N.nx ⟨[some e0, some (natD n), c2, c3, some e4, some (.ptr a), some e6, c7, c8, c9, c10, c11, c12, some (frowD row), some (.str (shD (frowD row))), some (trD .frz n (sortP (dec (List.range n) row)) ws), none, none, none], st⟩) :
    bI N ⟨[some e0, some (natD n), c2, c3, some e4, some (.ptr a), some e6, c7, c8, c9, c10, c11, c12, some (frowD row), some (.str (shD (frowD row))), some (trD .frz n (sortP (dec (List.range n) row)) ws), none, none, none], st⟩ := by
  have d := dec_row rl rn
  have g := d.good hi
  have ro := repr_frow (l := row) (by omega) (fun k m => by have := rn k m; omega)
  have pp : List.Perm (dec (List.range n) row) (sortP (dec (List.range n) row)) := (sortP_perm _).symm
  have e1 : eqD (natD n) (natD n) = true := by rw [eq_int]; simp
  refine ⟨rfl, rfl, rfl, rfl, ?_⟩
  show onB (.bl (!eqD (natD n) (natD n))) _
  rw [e1]
  refine ⟨rfl, .frz, n, _, ws, rfl, g, fun e => absurd e (by omega), fun _ => ⟨row, _, d, pp, ?_⟩⟩
  refine ⟨rfl, .inr ⟨.own, .frz, row, rfl, by omega, ?_⟩⟩
  refine ⟨rfl, rfl, nowns_roads _, n, _, sortP (dec (List.range n) row), row, _, rfl, .inr ⟨.own, rfl⟩, hi, fun q m => g.inr q m, rs_len g, d, pp, ?_⟩
  refine ⟨rfl, .inr ⟨.own, .frz, row, rfl, by omega, ?_⟩⟩
  refine ⟨ro, rfl, rfl, rfl, ?_⟩
  show onB (.bl (!eqD (.str (shD (frowD row))) (.str (shD (frowD row))))) _
  rw [eq_str]
  exact h
theorem part_J {p q r : Int} {st0 : Sto} (rl : row.length + 2 = n) (hi : n ≤ 64) (rn : ∀ k ∈ row, k < n) (p0 : 0 ≤ p) (q0 : 0 ≤ q) (q1 : q < 2147483629) (r0 : 0 ≤ r) (rb : r < 800000)
    (h : ∀ p' r', 0 ≤ p' → r ≤ r' → r' ≤ r + 2 → N.nx ⟨[some e0, some (natD n), c2, c3, some e4, some (.ptr a), some e6, c7, c8, c9, c10, c11, c12, some (frowD row), c14, c15, none, none, none], (a, boxD p' q r') :: st0⟩) :
    bJ N ⟨[some e0, some (natD n), c2, c3, some e4, some (.ptr a), some e6, c7, c8, c9, c10, c11, c12, some (frowD row), c14, c15, none, none, none], (a, boxD p q r) :: st0⟩ :=
  ⟨rfl, rfl, rfl, a, n, row, p, q, r, st0, rfl, rfl, rl, hi, rn, p0, q0, q1, r0, by omega, fun p' r' b1 b2 b3 => h p' r' b1 b2 b3⟩
end
abbrev bRest : SF := sSeq bB (sSeq bC (sSeq bD (sSeq bE (sSeq bF (sSeq bG (sSeq bH (sSeq bI bJ)))))))
theorem part_all {N : DN} {a : Addr} {n : Nat} {rs : Rds} {e0 e4 e6 : D} {c2 c3 c8 c9 c10 c11 c12 c13 c14 c15 : Option D} {p q r : Int} {st0 : Sto} (g : Good n rs) (lo : 2 ≤ n) (p0 : 0 ≤ p) (q0 : 0 ≤ q) (q1 : q < 2147483629) (r0 : 0 ≤ r) (rb : r < 700000)
    (h : ∀ c10 c11 c12 c13 c14 c15 p' r', 0 ≤ p' → r ≤ r' → r' ≤ r + 100 → N.nx ⟨[some e0, some (natD n), c2, c3, some e4, some (.ptr a), some e6, some (.lst .frz (rs.map roadD)), c8, c9, c10, c11, c12, c13, c14, c15, none, none, none], (a, boxD p' q r') :: st0⟩) :
    bRest N ⟨[some e0, some (natD n), c2, c3, some e4, some (.ptr a), some e6, some (.lst .frz (rs.map roadD)), c8, c9, c10, c11, c12, c13, c14, c15, none, none, none], (a, boxD p q r) :: st0⟩ := by
  have hi := g.hi
  obtain ⟨row, T, d, pm⟩ := g.dec lo
  refine part_B g fun ws => ?_
  refine part_C g lo d pm ?_
  refine part_D g lo d pm ?_
  refine part_E g d pm ?_
  refine part_F lo hi p0 q0 q1 r0 (by omega) fun l p1 r1 ll ln b1 b2 b3 => ?_
  refine part_G ll hi ln ?_
  refine part_H ll hi ln fun ws2 => ?_
  refine part_I ll hi ln ?_
  refine part_J ll hi ln b1 q0 q1 (by omega) (by omega) fun p2 r2 d1 d2 d3 => ?_
  exact h _ _ _ _ _ _ p2 r2 d1 (by omega) (by omega)
end Mf.L_k92
set_option Elab.async false
set_option linter.all false
set_option maxRecDepth 100000
set_option maxHeartbeats 1000000
namespace Mf.L_k92
open PySem PySem.Spec PyProof.Rows L2 PySem.SeqAt
abbrev bA : SF := sIf (bV (pe (pOp oEq (pVar 1) (pC (.int 1))))) (sSeq (sSetF 8 (pe (pC .non)))
      (sSeq (sTry EXC (sExpr (dFn sRowOf (aCons (dMake "Tree" sInit (aCons (pe (pC (.int 1))) (aCons (dLst (aNil)) (aNil)))) (aNil)))) [("InvalidHouses", some 9, fun z => sSetF 8 (dXf z 9 "given"))])
      (sSeq (sIf (bNot (bV (dFnB sIs2 (paCons (pVar 8) (paCons (pC (.int 1)) (paNil)))))) (sRet (pe (pC (.bl false)))) (sNil))
      (sCont)))) (sNil)
abbrev l2B : SF := sSeq (sAsg (dFn sRoads (aCons (pe (pVar 5)) (aCons (pe (pVar 6)) (aNil)))) (tLstT 2 (tsCons (tNameF 1) (tsCons (tNameF 7) (tsNil))))) (sSeq bA bRest)
theorem good_one : Good 1 [] := ⟨by omega, by omega, rfl, (fun _ m => nomatch m), (fun i h => by simp at h), fun S s0 _ i hi => by
  have : i = 0 := by omega
  subst this; exact s0⟩
theorem law_most {N : DN} {a : Addr} {e0 e4 : D} {c2 c3 : Option D} {q : Int} {st0 : Sto} (q0 : 0 ≤ q) (q1 : q < 2147483629)
    (h : ∀ c1 c6 c7 c8 c9 c10 c11 c12 c13 c14 c15 st, N.nx ⟨[some e0, c1, c2, c3, some e4, some (.ptr a), c6, c7, c8, c9, c10, c11, c12, c13, c14, c15, none, none, none], st⟩) :
    ∀ (ms : List Int) (c1 c6 c7 c8 c9 c10 c11 c12 c13 c14 c15 : Option D) (p r : Int), (∀ m ∈ ms, 0 < m ∧ m ≤ 64) → 0 ≤ p → 0 ≤ r → r + 400 * (ms.length : Int) < 700000 →
    forL (tName 6) l2B N (ms.map D.int) ⟨[some e0, c1, c2, c3, some e4, some (.ptr a), c6, c7, c8, c9, c10, c11, c12, c13, c14, c15, none, none, none], (a, boxD p q r) :: st0⟩
  | [], c1, c6, c7, c8, c9, c10, c11, c12, c13, c14, c15, p, r, _, _, _, _ => h _ _ _ _ _ _ _ _ _ _ _ _
  | m :: ms, c1, c6, c7, c8, c9, c10, c11, c12, c13, c14, c15, p, r, hm, p0, r0, hr => by
    obtain ⟨m0, m1⟩ := hm m (by simp)
    rw [List.length_cons] at hr
    refine ⟨(by decide : (6 : Nat) < 19), ?_⟩
    refine ⟨rfl, rfl, a, m, p, q, r, st0, rfl, rfl, m0, m1, p0, q0, q1, r0, by omega, fun n rs p1 r1 g b1 b2 b3 => ?_⟩
    refine ⟨rfl, (by decide : (1 : Nat) < 19), (by decide : (7 : Nat) < 19), ?_⟩
    show sSeq bA bRest _ ⟨[some e0, some (natD n), c2, c3, some e4, some (.ptr a), some (.int m), some (fz (.lst .own (rs.map roadD))), c8, c9, c10, c11, c12, c13, c14, c15, none, none, none], (a, boxD p1 q r1) :: st0⟩
    rw [fz_roads]
    have next := law_most (c2 := c2) (c3 := c3) (e0 := e0) (e4 := e4) (a := a) (st0 := st0) q0 q1 h ms
    refine ⟨rfl, rfl, rfl, ?_⟩
    show onB (.bl (eqD (natD n) (.int 1))) _
    rw [eq_int]
    by_cases h1 : n = 1
    · subst h1
      refine ⟨rfl, (by decide : (8 : Nat) < 19), ?_⟩
      refine ⟨rfl, Nat.zero_le _, fun ad => ⟨ad, 1, _, [], _, rfl, rfl, .inr ⟨.own, rfl⟩, good_one, fun ws => ⟨rfl, ?_⟩⟩⟩
      show onO (getSt ((ad, tI (treeF 1 [] ws)) :: (a, boxD p1 q r1) :: st0) ad) _
      rw [getSt_self]
      have e1 : dropSt ((ad, tI (treeF 1 [] ws)) :: (a, boxD p1 q r1) :: st0) ad = (a, boxD p1 q r1) :: st0 := by simp [dropSt]
      refine ⟨.own, 1, [], ws, rfl, good_one, fun _ => ?_, fun e => absurd e (by omega)⟩
      refine ⟨(by decide +kernel : ("InvalidHouses" : Str) ∈ EXC), ?_⟩
      show if exb "InvalidHouses" "InvalidHouses" = true then _ else _
      rw [if_pos exb1]
      intro a' dd
      refine ⟨(by decide : (9 : Nat) < 19), ?_⟩
      refine ⟨rfl, natD 1, rfl, rfl, (by decide : (8 : Nat) < 19), ?_⟩
      refine .inl ⟨1, rfl, rfl, ?_⟩
      show forL (tName 6) l2B N (ms.map D.int) ⟨_, dropSt ((ad, tI (treeF 1 [] ws)) :: (a, boxD p1 q r1) :: st0) ad⟩
      rw [e1]
      exact next _ _ _ _ _ _ _ _ _ _ _ p1 r1 (fun x mx => hm x (.tail _ mx)) b1 (by omega) (by omega)
    · have e : decide ((n : Int) = 1) = false := by simp; omega
      rw [e]
      have lo := g.lo
      refine part_all g (by omega) b1 q0 q1 (by omega) (by omega) fun c10 c11 c12 c13 c14 c15 p2 r2 d1 d2 d3 => ?_
      exact next _ _ _ _ _ _ _ _ _ _ _ p2 r2 (fun x mx => hm x (.tail _ mx)) d1 (by omega) (by omega)
abbrev l3B : SF := sSeq (sSetSh false 5 (dFn sBox (aCons (dFn sCell (aCons (pe (pVar 0)) (aCons (pe (pVar 4)) (aNil)))) (aNil)))) (sFor (iSeq (dTup (aCons (pe (pC (.int 8))) (aCons (pe (pC (.int 64))) (aNil))))) (tName 6) l2B)
theorem law_cells {N : DN} {ns : List Int} {c2 c3 : Option D} (h : ∀ e, N.nx e) :
    ∀ (ks : List Nat) (c1 c4 c5 c6 c7 c8 c9 c10 c11 c12 c13 c14 c15 : Option D) (st : Sto), forL (tName 4) l3B N (ks.map natD) ⟨[some (.scr ns), c1, c2, c3, c4, c5, c6, c7, c8, c9, c10, c11, c12, c13, c14, c15, none, none, none], st⟩
  | [], c1, c4, c5, c6, c7, c8, c9, c10, c11, c12, c13, c14, c15, st => h _
  | k :: ks, c1, c4, c5, c6, c7, c8, c9, c10, c11, c12, c13, c14, c15, st => by
    refine ⟨(by decide : (4 : Nat) < 19), ?_⟩
    refine ⟨rfl, rfl, ns, k, rfl, cellOf ns k, rfl, (by decide : (5 : Nat) < 19), trivial, fun a => ?_⟩
    refine ⟨rfl, rfl, (by rw [sizeLine_eq]; simp), rfl, ?_⟩
    have hp : 0 ≤ boxHi (cellOf ns k) := by unfold boxHi; omega
    have hq : 0 ≤ boxLo (cellOf ns k) ∧ boxLo (cellOf ns k) < 2147483629 := by unfold boxLo; omega
    refine law_most (q := boxLo (cellOf ns k)) (st0 := []) hq.1 hq.2 (fun c1 c6 c7 c8 c9 c10 c11 c12 c13 c14 c15 st => ?_) [8, 64] _ _ _ _ _ _ _ _ _ _ _ (boxHi (cellOf ns k)) 0 (by simp) hp (by omega) (by simp)
    exact law_cells h ks _ _ _ _ _ _ _ _ _ _ _ _ _ st
def sLaw : DSp := fun ds _ Q _ => ∃ ns : List Int, ds = [.scr ns] ∧ ns.length ≤ 63 ∧ ∀ st, Q (.bl true) st
theorem m_law : ∀ ds st Q E, sLaw ds st Q E → b_law sAllRows sTree sBox sCell sRoads sRowOf sIs2 sNear sLawRow sTake sRefused sInit sEq sLine (spN Q E) (startE 19 ds st) := by
  rintro _ st Q E ⟨ns, rfl, hl, q⟩
  refine ⟨rfl, rfl, ⟨by omega, by omega⟩, ⟨by omega, by omega⟩, ?_⟩
  refine law_loop1 (fun c1 c2 c3 => ?_) [2, 3, 4, 5] none none none (by simp)
  refine ⟨⟨by omega, by omega⟩, ?_⟩
  have e : rng 0 (max 2 (min 6 (ns.length : Int))) = (List.range (max 2 (min 6 ns.length))).map natD := by
    rw [← rng0]
    congr 1
    omega
  show forL (tName 4) l3B _ (rng 0 (max 2 (min 6 (ns.length : Int)))) ⟨[some (.scr ns), c1, c2, c3, none, none, none, none, none, none, none, none, none, none, none, none, none, none, none], st⟩
  rw [e]
  refine law_cells (fun e => ?_) _ _ _ _ _ _ _ _ _ _ _ _ _ _ _
  exact ⟨rfl, q _⟩
end Mf.L_k92
set_option Elab.async false
set_option linter.all false
set_option maxRecDepth 100000
set_option maxHeartbeats 0
namespace Mf.L_k92
open PySem PySem.Spec PyProof.Rows L2 C8
def hd_is_integer : He.DefD := ⟨("is_integer", none), "is_integer", "is_integer", defArgs s_is_integer, defBody s_is_integer, defScope s_is_integer, [], []⟩
def hd_is_index : He.DefD := ⟨("is_index", none), "is_index", "is_index", defArgs s_is_index, defBody s_is_index, defScope s_is_index, [], []⟩
def hd_is_list : He.DefD := ⟨("is_list", none), "is_list", "is_list", defArgs s_is_list, defBody s_is_list, defScope s_is_list, [], []⟩
def hd_ascends : He.DefD := ⟨("ascends", none), "ascends", "ascends", defArgs s_ascends, defBody s_ascends, defScope s_ascends, [], []⟩
def hd_is_road : He.DefD := ⟨("is_road", none), "is_road", "is_road", defArgs s_is_road, defBody s_is_road, defScope s_is_road, [], []⟩
def hd_are_roads : He.DefD := ⟨("are_roads", none), "are_roads", "are_roads", defArgs s_are_roads, defBody s_are_roads, defScope s_are_roads, [], []⟩
def hd_joined_by : He.DefD := ⟨("joined_by", none), "joined_by", "joined_by", defArgs s_joined_by, defBody s_joined_by, defScope s_joined_by, [], []⟩
def hd_ways_from : He.DefD := ⟨("ways_from", none), "ways_from", "ways_from", defArgs s_ways_from, defBody s_ways_from, defScope s_ways_from, [], []⟩
def hd_row_of : He.DefD := ⟨("row_of", none), "row_of", "row_of", defArgs s_row_of, defBody s_row_of, defScope s_row_of, [], []⟩
def hd_tree_of_row : He.DefD := ⟨("tree_of_row", none), "tree_of_row", "tree_of_row", defArgs s_tree_of_row, defBody s_tree_of_row, defScope s_tree_of_row, [], []⟩
def hd_law_cell : He.DefD := ⟨("_law_cell", none), "_law_cell", "_law_cell", defArgs s_law_cell, defBody s_law_cell, defScope s_law_cell, [], []⟩
def hd_law_box : He.DefD := ⟨("_law_box", none), "_law_box", "_law_box", defArgs s_law_box, defBody s_law_box, defScope s_law_box, [], []⟩
def hd_law_take : He.DefD := ⟨("_law_take", none), "_law_take", "_law_take", defArgs s_law_take, defBody s_law_take, defScope s_law_take, [], []⟩
def hd_law_mixed : He.DefD := ⟨("_law_mixed", none), "_law_mixed", "_law_mixed", defArgs s_law_mixed, defBody s_law_mixed, defScope s_law_mixed, [], []⟩
def hd_law_roads : He.DefD := ⟨("_law_roads", none), "_law_roads", "_law_roads", defArgs s_law_roads, defBody s_law_roads, defScope s_law_roads, [], []⟩
def hd_law_near : He.DefD := ⟨("_law_near", none), "_law_near", "_law_near", defArgs s_law_near, defBody s_law_near, defScope s_law_near, [], []⟩
def hd_law_is : He.DefD := ⟨("_law_is", none), "_law_is", "_law_is", defArgs s_law_is, defBody s_law_is, defScope s_law_is, [], []⟩
def hd_law_very : He.DefD := ⟨("_law_very", none), "_law_very", "_law_very", defArgs s_law_very, defBody s_law_very, defScope s_law_very, [], []⟩
def hd_law_row : He.DefD := ⟨("_law_row", none), "_law_row", "_law_row", defArgs s_law_row, defBody s_law_row, defScope s_law_row, [], []⟩
def hd_law_all_rows : He.DefD := ⟨("_law_all_rows", none), "_law_all_rows", "_law_all_rows", defArgs s_law_all_rows, defBody s_law_all_rows, defScope s_law_all_rows, [], []⟩
def hd_law_asked : He.DefD := ⟨("_law_asked", none), "_law_asked", "_law_asked", defArgs s_law_asked, defBody s_law_asked, defScope s_law_asked, [], []⟩
def hd_law_refused_right : He.DefD := ⟨("_law_refused_right", none), "_law_refused_right", "_law_refused_right", defArgs s_law_refused_right, defBody s_law_refused_right, defScope s_law_refused_right, [], []⟩
def hd_law : He.DefD := ⟨("law", none), "law", "law", defArgs s_law, defBody s_law, defScope s_law, [], []⟩
def hd_InvalidHouses_init : He.DefD := ⟨("InvalidHouses", some "__init__"), "__init__", "InvalidHouses.__init__", defArgs (meth 2 0), defBody (meth 2 0), defScope (meth 2 0), [], []⟩
def hd_InvalidRoads_init : He.DefD := ⟨("InvalidRoads", some "__init__"), "__init__", "InvalidRoads.__init__", defArgs (meth 3 0), defBody (meth 3 0), defScope (meth 3 0), [], []⟩
def hd_NotJoined_init : He.DefD := ⟨("NotJoined", some "__init__"), "__init__", "NotJoined.__init__", defArgs (meth 4 0), defBody (meth 4 0), defScope (meth 4 0), [], []⟩
def hd_InvalidRow_init : He.DefD := ⟨("InvalidRow", some "__init__"), "__init__", "InvalidRow.__init__", defArgs (meth 5 0), defBody (meth 5 0), defScope (meth 5 0), [], []⟩
def hd_Tree_init : He.DefD := ⟨("Tree", some "__init__"), "__init__", "Tree.__init__", defArgs (meth 17 0), defBody (meth 17 0), defScope (meth 17 0), [], []⟩
def hd_Tree_eq : He.DefD := ⟨("Tree", some "__eq__"), "__eq__", "Tree.__eq__", defArgs (meth 17 1), defBody (meth 17 1), defScope (meth 17 1), [], []⟩
def hd_Tree_len : He.DefD := ⟨("Tree", some "__len__"), "__len__", "Tree.__len__", defArgs (meth 17 2), defBody (meth 17 2), defScope (meth 17 2), [], []⟩
def hd_Tree_contains : He.DefD := ⟨("Tree", some "__contains__"), "__contains__", "Tree.__contains__", defArgs (meth 17 3), defBody (meth 17 3), defScope (meth 17 3), [], []⟩
def hd_Tree_line : He.DefD := ⟨("Tree", some "line"), "line", "Tree.line", defArgs (meth 17 4), defBody (meth 17 4), defScope (meth 17 4), [], []⟩
def hFn : List He.DefD := [hd_is_integer, hd_is_index, hd_is_list, hd_ascends, hd_is_road, hd_are_roads, hd_joined_by, hd_ways_from, hd_row_of, hd_tree_of_row, hd_law_cell, hd_law_box, hd_law_take, hd_law_mixed, hd_law_roads, hd_law_near, hd_law_is, hd_law_very, hd_law_row, hd_law_all_rows, hd_law_asked, hd_law_refused_right, hd_law, hd_InvalidHouses_init, hd_InvalidRoads_init, hd_NotJoined_init, hd_InvalidRow_init, hd_Tree_init, hd_Tree_eq, hd_Tree_len, hd_Tree_contains, hd_Tree_line]
def hFaA : List He.Fa := [.glo "is_integer", .glo "is_index", .glo "is_list", .glo "ascends", .glo "is_road", .glo "are_roads", .glo "joined_by", .glo "ways_from", .glo "row_of", .glo "tree_of_row", .glo "_law_cell", .glo "_law_box", .glo "_law_take", .glo "_law_mixed", .glo "_law_roads", .glo "_law_near", .glo "_law_is", .glo "_law_very", .glo "_law_row", .glo "_law_all_rows", .glo "_law_asked", .glo "_law_refused_right", .glo "law", .glo "LostError", .glo "InvalidHouses", .glo "InvalidRoads", .glo "NotJoined", .glo "InvalidRow", .glo "Tree", .int "MOST_HOUSES" 64, .cls "Tree", .mkr "Tree", .meth "Tree" "__eq__", .meth "Tree" "__len__", .meth "Tree" "__contains__", .meth "Tree" "line", .noat "Tree" "houses", .noat "Tree" "roads", .noat "Tree" "near", .noat "Tree" "ways", .noat "LostError" "given", .noat "LostError" "house", .noat "InvalidHouses" "given", .noat "InvalidHouses" "house", .noat "InvalidRoads" "given", .noat "InvalidRoads" "house", .noat "NotJoined" "given", .noat "NotJoined" "house", .noat "InvalidRow" "given", .noat "InvalidRow" "house"]
def hFa : List He.Fa := hFaA ++ (bltNames.map He.Fa.free ++ EXC.flatMap fun c => EXC.map fun h => He.Fa.exm c h (exb h c))
def hEx (K : PySem.W.Frag) : Bool := (EXC.all (okE K) && leB K "LostError") && ((["InvalidHouses", "InvalidRoads", "NotJoined", "InvalidRow"] : List Str).all (fun c => fnB K c "__init__") && (["Tree"] : List Str).all (insB K))
def hLoose : List Str := ["LostError", "InvalidHouses", "InvalidRoads", "NotJoined", "InvalidRow", "Tree", "MOST_HOUSES", "is_integer", "is_index", "is_list", "ascends", "is_road", "are_roads", "joined_by", "ways_from", "row_of", "tree_of_row", "_law_cell", "_law_box", "_law_take", "_law_mixed", "_law_roads", "_law_near", "_law_is", "_law_very", "_law_row", "_law_all_rows", "_law_asked", "_law_refused_right"]
abbrev hRow : PySem.W.OpenRow := PySem.W.OpenLaw.row PySem.Challenge.rw_mapfound_k92_whole_rows_of_trees
abbrev hHook : PySem.W.Hook := hookX 6 hFa hFn hEx
def hOb (s : PySem.W.SharedT) : He.AlD × Bool := obXG 6 hFa hFn hEx (HandSHeadRun.getT s)
theorem hOb_eq (s : PySem.W.SharedT) : hOb s = hHook.obs s.abs := obXG_eq (HandSHeadRun.getT_eq s)
theorem hRun (w : World) : HandSHeadRun.RunEq hRow (PySem.W.view hRow.prog [34]) hHook hOb 20000 hLoose w := by
  intro os
  kernel_rfl
end Mf.L_k92
set_option Elab.async false
set_option linter.all false
set_option maxRecDepth 100000
set_option maxHeartbeats 4000000
namespace Mf.L_k92
open PySem PySem.Spec PyProof.Rows L2 C8
section
variable {P : Program} {w : World} {K : PySem.W.Frag} {mg : Str → Option Value} {base h : Heap}
theorem f_blt (c : SaysX hFa hFn hEx K) (KX : K.In h) (G : h.Ns mainGlobals mg) : Blt mg := ⟨fun x m => He.free_ok KX G (c.faB (List.mem_append_right _ (List.mem_append_left _ (List.mem_map.mpr ⟨x, m, rfl⟩))))⟩
theorem f_exm (c : SaysX hFa hFn hEx K) {x y : Str} (mx : x ∈ EXC) (my : y ∈ EXC) : PySem.W.exmOne K (.ref (He.ga K x)) (.ref (He.ga K y)) = some (exb y x) := He.exm_ok (c.faB (List.mem_append_right _ (List.mem_append_right _ (List.mem_flatMap.mpr ⟨x, mx, List.mem_map.mpr ⟨y, my, rfl⟩⟩))))
theorem f_exs (c : SaysX hFa hFn hEx K) {x : Str} (m : x ∈ EXC) : OexC K (He.ga K x) ∧ XfC K (He.ga K x) := okE_ok (List.all_eq_true.mp (He.ba (He.ba c.exB).1).1 x m)
theorem f_le (c : SaysX hFa hFn hEx K) : LeC K (He.ga K "LostError") := leB_ok (He.ba (He.ba c.exB).1).2
theorem f_fn (c : SaysX hFa hFn hEx K) {x : Str} (m : x ∈ (["InvalidHouses", "InvalidRoads", "NotJoined", "InvalidRow"] : List Str)) : PySem.W.findIn K (.ref (He.ga K x)) "__init__" = some (some (.ref (He.ma K (He.ga K x) "__init__"))) ∧ PySem.W.typeIn K (.ref (He.ma K (He.ga K x) "__init__")) = some (.type "function") := fnB_ok (List.all_eq_true.mp (He.ba (He.ba c.exB).2).1 x m)
theorem f_ins (c : SaysX hFa hFn hEx K) {x : Str} (m : x ∈ (["Tree"] : List Str)) : InsC K (He.ga K x) := insB_ok (List.all_eq_true.mp (He.ba (He.ba c.exB).2).2 x m)
theorem f_XS (c : SaysX hFa hFn hEx K) (KX : K.In h) (G : h.Ns mainGlobals mg) : Exs K mg EXC EXF := by
  have g : ∀ x ∈ EXC, mg x = some (.ref (He.ga K x)) := by
    intro x m
    simp only [EXC, List.mem_cons, List.not_mem_nil, or_false] at m
    rcases m with rfl | rfl | rfl | rfl | rfl
    · exact He.glo_ok KX G (c.d.fact 23 (f := .glo "LostError") rfl)
    · exact He.glo_ok KX G (c.d.fact 24 (f := .glo "InvalidHouses") rfl)
    · exact He.glo_ok KX G (c.d.fact 25 (f := .glo "InvalidRoads") rfl)
    · exact He.glo_ok KX G (c.d.fact 26 (f := .glo "NotJoined") rfl)
    · exact He.glo_ok KX G (c.d.fact 27 (f := .glo "InvalidRow") rfl)
  have na : ∀ x ∈ EXC, ∀ f ∈ EXF, PySem.W.findIn K (.ref (He.ga K x)) f = some none := by
    intro x m f mf
    simp only [EXC, List.mem_cons, List.not_mem_nil, or_false] at m
    simp only [EXF, List.mem_cons, List.not_mem_nil, or_false] at mf
    rcases m with rfl | rfl | rfl | rfl | rfl <;> rcases mf with rfl | rfl
    · exact He.noat_ok (c.d.fact 40 (f := .noat "LostError" "given") rfl)
    · exact He.noat_ok (c.d.fact 41 (f := .noat "LostError" "house") rfl)
    · exact He.noat_ok (c.d.fact 42 (f := .noat "InvalidHouses" "given") rfl)
    · exact He.noat_ok (c.d.fact 43 (f := .noat "InvalidHouses" "house") rfl)
    · exact He.noat_ok (c.d.fact 44 (f := .noat "InvalidRoads" "given") rfl)
    · exact He.noat_ok (c.d.fact 45 (f := .noat "InvalidRoads" "house") rfl)
    · exact He.noat_ok (c.d.fact 46 (f := .noat "NotJoined" "given") rfl)
    · exact He.noat_ok (c.d.fact 47 (f := .noat "NotJoined" "house") rfl)
    · exact He.noat_ok (c.d.fact 48 (f := .noat "InvalidRow" "given") rfl)
    · exact He.noat_ok (c.d.fact 49 (f := .noat "InvalidRow" "house") rfl)
  refine ⟨fun x m => ⟨He.ga K x, g x m, (f_exs c m).2, na x m⟩, fun y my x mx Cy Cx ey ex => ?_⟩
  rw [g y my] at ey
  rw [g x mx] at ex
  cases ey
  cases ex
  exact f_exm c mx my
theorem S_InvalidHouses : FnScope ["self", "given"] ["self", "given"] (defScope (meth 2 0)) := ⟨rfl, rfl, rfl, by decide +kernel, rfl, by decide +kernel, by decide +kernel⟩
theorem f_X_InvalidHouses (c : SaysX hFa hFn hEx K) (KX : K.In h) (G : h.Ns mainGlobals mg) : XcD P w K mg base "InvalidHouses" ["given"] := by
  obtain ⟨fd, F⟩ := c.d.def_ 23 (d := hd_InvalidHouses_init) rfl
  have F2 : FunD K _ _ _ (bI1 "given" _ _ _ _ _ _ _ _ _ _ _ _) (defScope (meth 2 0)) [] [] _ fd := F
  have I := ok_I1 (P := P) (w := w) (base := base) (fun _ => ⟨_, rfl⟩) F2 S_InvalidHouses (He.glo_ok KX G (c.d.fact 23 (f := .glo "LostError") rfl)) (f_le c) rfl rfl rfl (by decide) (by decide) 
  exact .one (He.glo_ok KX G (c.d.fact 24 (f := .glo "InvalidHouses") rfl)) (f_exs c (by decide +kernel)).1 (f_fn c (by decide +kernel)).1 (f_fn c (by decide +kernel)).2 I (F2.bindsN fun _ _ _ _ _ _ us hl => match us, hl with | [_, _], _ => rfl) (He.noat_ok (c.d.fact 42 (f := .noat "InvalidHouses" "given") rfl))
theorem S_InvalidRoads : FnScope ["self", "given"] ["self", "given"] (defScope (meth 3 0)) := ⟨rfl, rfl, rfl, by decide +kernel, rfl, by decide +kernel, by decide +kernel⟩
theorem f_X_InvalidRoads (c : SaysX hFa hFn hEx K) (KX : K.In h) (G : h.Ns mainGlobals mg) : XcD P w K mg base "InvalidRoads" ["given"] := by
  obtain ⟨fd, F⟩ := c.d.def_ 24 (d := hd_InvalidRoads_init) rfl
  have F2 : FunD K _ _ _ (bI1 "given" _ _ _ _ _ _ _ _ _ _ _ _) (defScope (meth 3 0)) [] [] _ fd := F
  have I := ok_I1 (P := P) (w := w) (base := base) (fun _ => ⟨_, rfl⟩) F2 S_InvalidRoads (He.glo_ok KX G (c.d.fact 23 (f := .glo "LostError") rfl)) (f_le c) rfl rfl rfl (by decide) (by decide) 
  exact .one (He.glo_ok KX G (c.d.fact 25 (f := .glo "InvalidRoads") rfl)) (f_exs c (by decide +kernel)).1 (f_fn c (by decide +kernel)).1 (f_fn c (by decide +kernel)).2 I (F2.bindsN fun _ _ _ _ _ _ us hl => match us, hl with | [_, _], _ => rfl) (He.noat_ok (c.d.fact 44 (f := .noat "InvalidRoads" "given") rfl))
theorem S_NotJoined : FnScope ["self", "house"] ["self", "house"] (defScope (meth 4 0)) := ⟨rfl, rfl, rfl, by decide +kernel, rfl, by decide +kernel, by decide +kernel⟩
theorem f_X_NotJoined (c : SaysX hFa hFn hEx K) (KX : K.In h) (G : h.Ns mainGlobals mg) : XcD P w K mg base "NotJoined" ["house"] := by
  obtain ⟨fd, F⟩ := c.d.def_ 25 (d := hd_NotJoined_init) rfl
  have F2 : FunD K _ _ _ (bI1 "house" _ _ _ _ _ _ _ _ _ _ _ _) (defScope (meth 4 0)) [] [] _ fd := F
  have I := ok_I1 (P := P) (w := w) (base := base) (fun _ => ⟨_, rfl⟩) F2 S_NotJoined (He.glo_ok KX G (c.d.fact 23 (f := .glo "LostError") rfl)) (f_le c) rfl rfl rfl (by decide) (by decide) 
  exact .one (He.glo_ok KX G (c.d.fact 26 (f := .glo "NotJoined") rfl)) (f_exs c (by decide +kernel)).1 (f_fn c (by decide +kernel)).1 (f_fn c (by decide +kernel)).2 I (F2.bindsN fun _ _ _ _ _ _ us hl => match us, hl with | [_, _], _ => rfl) (He.noat_ok (c.d.fact 47 (f := .noat "NotJoined" "house") rfl))
theorem S_InvalidRow : FnScope ["self", "given"] ["self", "given"] (defScope (meth 5 0)) := ⟨rfl, rfl, rfl, by decide +kernel, rfl, by decide +kernel, by decide +kernel⟩
theorem f_X_InvalidRow (c : SaysX hFa hFn hEx K) (KX : K.In h) (G : h.Ns mainGlobals mg) : XcD P w K mg base "InvalidRow" ["given"] := by
  obtain ⟨fd, F⟩ := c.d.def_ 26 (d := hd_InvalidRow_init) rfl
  have F2 : FunD K _ _ _ (bI1 "given" _ _ _ _ _ _ _ _ _ _ _ _) (defScope (meth 5 0)) [] [] _ fd := F
  have I := ok_I1 (P := P) (w := w) (base := base) (fun _ => ⟨_, rfl⟩) F2 S_InvalidRow (He.glo_ok KX G (c.d.fact 23 (f := .glo "LostError") rfl)) (f_le c) rfl rfl rfl (by decide) (by decide) 
  exact .one (He.glo_ok KX G (c.d.fact 27 (f := .glo "InvalidRow") rfl)) (f_exs c (by decide +kernel)).1 (f_fn c (by decide +kernel)).1 (f_fn c (by decide +kernel)).2 I (F2.bindsN fun _ _ _ _ _ _ us hl => match us, hl with | [_, _], _ => rfl) (He.noat_ok (c.d.fact 48 (f := .noat "InvalidRow" "given") rfl))
theorem f_c_MOST_HOUSES (c : SaysX hFa hFn hEx K) (KX : K.In h) (G : h.Ns mainGlobals mg) : ∃ t, mg "MOST_HOUSES" = some (.int 64 t) := He.int_ok KX G (c.d.fact 29 (f := .int "MOST_HOUSES" 64) rfl)
theorem f_C_Tree (c : SaysX hFa hFn hEx K) (KX : K.In h) (G : h.Ns mainGlobals mg) : ClD P w K mg base "Tree" ["houses", "roads", "near", "ways"] := by
  refine ⟨He.ga K "Tree", He.glo_ok KX G (c.d.fact 28 (f := .glo "Tree") rfl), He.cls_ok (c.d.fact 30 (f := .cls "Tree") rfl), fun f mf => ?_⟩
  simp only [List.mem_cons, List.not_mem_nil, or_false] at mf
  rcases mf with rfl | rfl | rfl | rfl
  · exact He.noat_ok (c.d.fact 36 (f := .noat "Tree" "houses") rfl)
  · exact He.noat_ok (c.d.fact 37 (f := .noat "Tree" "roads") rfl)
  · exact He.noat_ok (c.d.fact 38 (f := .noat "Tree" "near") rfl)
  · exact He.noat_ok (c.d.fact 39 (f := .noat "Tree" "ways") rfl)
theorem f_I_Tree (c : SaysX hFa hFn hEx K) (KX : K.In h) (G : h.Ns mainGlobals mg) : IsD K mg "Tree" := ⟨_, He.glo_ok KX G (c.d.fact 28 (f := .glo "Tree") rfl), f_ins c (by decide +kernel)⟩
theorem f_is_integer (c : SaysX hFa hFn hEx K) (KX : K.In h) (G : h.Ns mainGlobals mg) : FnD P w K mg base 1 "is_integer" 1 sIsInt := by
  obtain ⟨fd, F⟩ := c.d.def_ 0 (d := hd_is_integer) rfl
  refine FnD.mk' (k := 0) (N := N_is_integer) (ps := p_is_integer) F S_is_integer (He.glo_ok KX G (c.d.fact 0 (f := .glo "is_integer") rfl)) (F.bindsN fun _ _ _ _ _ _ us hl => match us, hl with | [_], _ => rfl) ((fun ds st Q E q => by obtain ⟨_, rfl, _⟩ := q; rfl)) (fun cdv A outer s H E hgd hr => ?_) m_is_integer
  exact d_is_integer (f_blt c KX G) hgd hr 
theorem f_is_index (c : SaysX hFa hFn hEx K) (KX : K.In h) (G : h.Ns mainGlobals mg) : FnD P w K mg base 2 "is_index" 2 sIsIdx := by
  obtain ⟨fd, F⟩ := c.d.def_ 1 (d := hd_is_index) rfl
  refine FnD.mk' (k := 1) (N := N_is_index) (ps := p_is_index) F S_is_index (He.glo_ok KX G (c.d.fact 1 (f := .glo "is_index") rfl)) (F.bindsN fun _ _ _ _ _ _ us hl => match us, hl with | [_, _], _ => rfl) ((fun ds st Q E q => by obtain ⟨_, _, rfl, _⟩ := q; rfl)) (fun cdv A outer s H E hgd hr => ?_) m_is_index
  exact d_is_index (f_blt c KX G) hgd hr (F_is_integer := (f_is_integer c KX G).mono (by decide))
theorem f_is_list (c : SaysX hFa hFn hEx K) (KX : K.In h) (G : h.Ns mainGlobals mg) : FnD P w K mg base 1 "is_list" 1 sIsLst := by
  obtain ⟨fd, F⟩ := c.d.def_ 2 (d := hd_is_list) rfl
  refine FnD.mk' (k := 0) (N := N_is_list) (ps := p_is_list) F S_is_list (He.glo_ok KX G (c.d.fact 2 (f := .glo "is_list") rfl)) (F.bindsN fun _ _ _ _ _ _ us hl => match us, hl with | [_], _ => rfl) ((fun ds st Q E q => by obtain ⟨_, rfl, _⟩ := q; rfl)) (fun cdv A outer s H E hgd hr => ?_) m_is_list
  exact d_is_list (f_blt c KX G) hgd hr 
theorem f_ascends (c : SaysX hFa hFn hEx K) (KX : K.In h) (G : h.Ns mainGlobals mg) : FnD P w K mg base 1 "ascends" 1 sAsc := by
  obtain ⟨fd, F⟩ := c.d.def_ 3 (d := hd_ascends) rfl
  refine FnD.mk' (k := 0) (N := N_ascends) (ps := p_ascends) F S_ascends (He.glo_ok KX G (c.d.fact 3 (f := .glo "ascends") rfl)) (F.bindsN fun _ _ _ _ _ _ us hl => match us, hl with | [_], _ => rfl) ((fun ds st Q E q => by obtain ⟨_, _, rfl, _⟩ := q; rfl)) (fun cdv A outer s H E hgd hr => ?_) m_ascends
  exact d_ascends (f_blt c KX G) hgd hr 
theorem f_is_road (c : SaysX hFa hFn hEx K) (KX : K.In h) (G : h.Ns mainGlobals mg) : FnD P w K mg base 3 "is_road" 2 sIsRoad := by
  obtain ⟨fd, F⟩ := c.d.def_ 4 (d := hd_is_road) rfl
  refine FnD.mk' (k := 2) (N := N_is_road) (ps := p_is_road) F S_is_road (He.glo_ok KX G (c.d.fact 4 (f := .glo "is_road") rfl)) (F.bindsN fun _ _ _ _ _ _ us hl => match us, hl with | [_, _], _ => rfl) ((fun ds st Q E q => by obtain ⟨_, _, rfl, _⟩ := q; rfl)) (fun cdv A outer s H E hgd hr => ?_) m_is_road
  exact d_is_road (f_blt c KX G) hgd hr (F_is_index := (f_is_index c KX G).mono (by decide))
theorem f_are_roads (c : SaysX hFa hFn hEx K) (KX : K.In h) (G : h.Ns mainGlobals mg) : FnD P w K mg base 4 "are_roads" 2 sAreRoads := by
  obtain ⟨fd, F⟩ := c.d.def_ 5 (d := hd_are_roads) rfl
  refine FnD.mk' (k := 3) (N := N_are_roads) (ps := p_are_roads) F S_are_roads (He.glo_ok KX G (c.d.fact 5 (f := .glo "are_roads") rfl)) (F.bindsN fun _ _ _ _ _ _ us hl => match us, hl with | [_, _], _ => rfl) ((fun ds st Q E q => by obtain ⟨_, _, _, rfl, _⟩ := q; rfl)) (fun cdv A outer s H E hgd hr => ?_) m_are_roads
  exact d_are_roads (f_blt c KX G) hgd hr (F_is_list := (f_is_list c KX G).mono (by decide)) (F_is_road := (f_is_road c KX G).mono (by decide)) (F_ascends := (f_ascends c KX G).mono (by decide))
theorem f_joined_by (c : SaysX hFa hFn hEx K) (KX : K.In h) (G : h.Ns mainGlobals mg) : FnD P w K mg base 1 "joined_by" 2 sJoined := by
  obtain ⟨fd, F⟩ := c.d.def_ 6 (d := hd_joined_by) rfl
  refine FnD.mk' (k := 0) (N := N_joined_by) (ps := p_joined_by) F S_joined_by (He.glo_ok KX G (c.d.fact 6 (f := .glo "joined_by") rfl)) (F.bindsN fun _ _ _ _ _ _ us hl => match us, hl with | [_, _], _ => rfl) ((fun ds st Q E q => by obtain ⟨_, _, _, rfl, _⟩ := q; rfl)) (fun cdv A outer s H E hgd hr => ?_) m_joined_by
  exact d_joined_by (f_blt c KX G) hgd hr 
theorem f_ways_from (c : SaysX hFa hFn hEx K) (KX : K.In h) (G : h.Ns mainGlobals mg) : FnD P w K mg base 1 "ways_from" 2 sWays := by
  obtain ⟨fd, F⟩ := c.d.def_ 7 (d := hd_ways_from) rfl
  refine FnD.mk' (k := 0) (N := N_ways_from) (ps := p_ways_from) F S_ways_from (He.glo_ok KX G (c.d.fact 7 (f := .glo "ways_from") rfl)) (F.bindsN fun _ _ _ _ _ _ us hl => match us, hl with | [_, _], _ => rfl) ((fun ds st Q E q => by obtain ⟨_, _, rfl, _⟩ := q; rfl)) (fun cdv A outer s H E hgd hr => ?_) m_ways_from
  exact d_ways_from (f_blt c KX G) hgd hr 
theorem f_Tree_init (c : SaysX hFa hFn hEx K) (KX : K.In h) (G : h.Ns mainGlobals mg) : ∃ fd, FnG P w K mg base (L2.CX P w) 5 (He.ma K (He.ga K "Tree") "__init__") fd p_Tree_init (toSp ⟨K, mg⟩ 3 sInit) ∧ Binds K fd p_Tree_init [] := by
  obtain ⟨fd, F⟩ := c.d.def_ 27 (d := hd_Tree_init) rfl
  refine ⟨fd, fnG_mk (k := 4) (N := N_Tree_init) (ps := p_Tree_init) F S_Tree_init (fun cdv A outer s H E hgd hr => ?_) m_Tree_init, F.bindsN fun _ _ _ _ _ _ us hl => match us, hl with | [_, _, _], _ => rfl⟩
  exact d_Tree_init (f_blt c KX G) hgd hr (h2k := by decide) (F_is_integer := (f_is_integer c KX G).mono (by decide)) (F_are_roads := (f_are_roads c KX G).mono (by decide)) (F_joined_by := (f_joined_by c KX G).mono (by decide)) (F_ways_from := (f_ways_from c KX G).mono (by decide)) (c_MOST_HOUSES := f_c_MOST_HOUSES c KX G) (X_InvalidHouses := f_X_InvalidHouses c KX G) (X_InvalidRoads := f_X_InvalidRoads c KX G) (X_NotJoined := f_X_NotJoined c KX G) (C_Tree := f_C_Tree c KX G)
theorem f_M_Tree (c : SaysX hFa hFn hEx K) (KX : K.In h) (G : h.Ns mainGlobals mg) : MkD P w K mg base 5 "Tree" 2 sInit := by
  obtain ⟨fd, I, b⟩ := f_Tree_init (P := P) (w := w) (base := base) c KX G
  exact ⟨(fun ds st Q E q => by obtain ⟨_, _, _, _, _, rfl, _⟩ := q; rfl), _, _, fd, p_Tree_init, rfl, He.glo_ok KX G (c.d.fact 28 (f := .glo "Tree") rfl), He.mkr_ok (c.d.fact 31 (f := .mkr "Tree") rfl), I, b⟩
theorem f_Tree_eq (c : SaysX hFa hFn hEx K) (KX : K.In h) (G : h.Ns mainGlobals mg) : ∃ fd, FnG P w K mg base (L2.CX P w) 1 (He.ma K (He.ga K "Tree") "__eq__") fd p_Tree_eq (toSp ⟨K, mg⟩ 2 sEq) ∧ Binds K fd p_Tree_eq [] := by
  obtain ⟨fd, F⟩ := c.d.def_ 28 (d := hd_Tree_eq) rfl
  refine ⟨fd, fnG_mk (k := 0) (N := N_Tree_eq) (ps := p_Tree_eq) F S_Tree_eq (fun cdv A outer s H E hgd hr => ?_) m_Tree_eq, F.bindsN fun _ _ _ _ _ _ us hl => match us, hl with | [_, _], _ => rfl⟩
  exact d_Tree_eq (f_blt c KX G) hgd hr (C_Tree := f_C_Tree c KX G) (I_Tree := f_I_Tree c KX G)
theorem f_Q_Tree (c : SaysX hFa hFn hEx K) (KX : K.In h) (G : h.Ns mainGlobals mg) {k : Nat} (hk : 1 ≤ k) : EqC P w K mg base k "Tree" sEq := by
  obtain ⟨fd, I, b⟩ := f_Tree_eq (P := P) (w := w) (base := base) c KX G
  have me := He.meth_ok (c.d.fact 32 (f := .meth "Tree" "__eq__") rfl)
  exact ⟨(fun ds st Q E q => by obtain ⟨_, _, _, _, _, _, rfl, _⟩ := q; rfl), _, _, fd, p_Tree_eq, He.glo_ok KX G (c.d.fact 28 (f := .glo "Tree") rfl), me.at_, me.fn, I.mono hk, b⟩
theorem f_Tree_line (c : SaysX hFa hFn hEx K) (KX : K.In h) (G : h.Ns mainGlobals mg) : ∃ fd, FnG P w K mg base (L2.CX P w) 1 (He.ma K (He.ga K "Tree") "line") fd p_Tree_line (toSp ⟨K, mg⟩ 1 sLine) ∧ Binds K fd p_Tree_line [] := by
  obtain ⟨fd, F⟩ := c.d.def_ 31 (d := hd_Tree_line) rfl
  refine ⟨fd, fnG_mk (k := 0) (N := N_Tree_line) (ps := p_Tree_line) F S_Tree_line (fun cdv A outer s H E hgd hr => ?_) m_Tree_line, F.bindsN fun _ _ _ _ _ _ us hl => match us, hl with | [_], _ => rfl⟩
  exact d_Tree_line (f_blt c KX G) hgd hr (C_Tree := f_C_Tree c KX G)
theorem f_L_Tree_line (c : SaysX hFa hFn hEx K) (KX : K.In h) (G : h.Ns mainGlobals mg) {k : Nat} (hk : 1 ≤ k) : MthD P w K mg base k "Tree" "line" 0 sLine := by
  obtain ⟨fd, I, b⟩ := f_Tree_line (P := P) (w := w) (base := base) c KX G
  exact ⟨(fun ds st Q E q => by obtain ⟨_, _, _, _, rfl, _⟩ := q; rfl), _, _, fd, p_Tree_line, rfl, He.glo_ok KX G (c.d.fact 28 (f := .glo "Tree") rfl), He.cls_ok (c.d.fact 30 (f := .cls "Tree") rfl), He.meth_ok (c.d.fact 35 (f := .meth "Tree" "line") rfl), I.mono hk, b⟩
theorem f_row_of (c : SaysX hFa hFn hEx K) (KX : K.In h) (G : h.Ns mainGlobals mg) : FnD P w K mg base 3 "row_of" 1 sRowOf := by
  obtain ⟨fd, F⟩ := c.d.def_ 8 (d := hd_row_of) rfl
  refine FnD.mk' (k := 2) (N := N_row_of) (ps := p_row_of) F S_row_of (He.glo_ok KX G (c.d.fact 8 (f := .glo "row_of") rfl)) (F.bindsN fun _ _ _ _ _ _ us hl => match us, hl with | [_], _ => rfl) ((fun ds st Q E q => by obtain ⟨_, _, _, _, rfl, _⟩ := q; rfl)) (fun cdv A outer s H E hgd hr => ?_) m_row_of
  exact d_row_of (f_blt c KX G) hgd hr (h2k := by decide) (X_InvalidHouses := f_X_InvalidHouses c KX G) (C_Tree := f_C_Tree c KX G)
theorem f_tree_of_row (c : SaysX hFa hFn hEx K) (KX : K.In h) (G : h.Ns mainGlobals mg) : FnD P w K mg base 7 "tree_of_row" 2 sTree := by
  obtain ⟨fd, F⟩ := c.d.def_ 9 (d := hd_tree_of_row) rfl
  refine FnD.mk' (k := 6) (N := N_tree_of_row) (ps := p_tree_of_row) F S_tree_of_row (He.glo_ok KX G (c.d.fact 9 (f := .glo "tree_of_row") rfl)) (F.bindsN fun _ _ _ _ _ _ us hl => match us, hl with | [_, _], _ => rfl) ((fun ds st Q E q => by obtain ⟨_, _, rfl, _⟩ := q; rfl)) (fun cdv A outer s H E hgd hr => ?_) m_tree_of_row
  exact d_tree_of_row (f_blt c KX G) hgd hr (h2k := by decide) (hk1 := by decide) (M_Tree := f_M_Tree c KX G) (F_is_integer := (f_is_integer c KX G).mono (by decide)) (F_is_list := (f_is_list c KX G).mono (by decide)) (F_is_index := (f_is_index c KX G).mono (by decide)) (c_MOST_HOUSES := f_c_MOST_HOUSES c KX G) (X_InvalidHouses := f_X_InvalidHouses c KX G) (X_InvalidRow := f_X_InvalidRow c KX G)
theorem f_law_cell (c : SaysX hFa hFn hEx K) (KX : K.In h) (G : h.Ns mainGlobals mg) : FnD P w K mg base 1 "_law_cell" 2 sCell := by
  obtain ⟨fd, F⟩ := c.d.def_ 10 (d := hd_law_cell) rfl
  refine FnD.mk' (k := 0) (N := N_law_cell) (ps := p_law_cell) F S_law_cell (He.glo_ok KX G (c.d.fact 10 (f := .glo "_law_cell") rfl)) (F.bindsN fun _ _ _ _ _ _ us hl => match us, hl with | [_, _], _ => rfl) ((fun ds st Q E q => by obtain ⟨_, _, rfl, _⟩ := q; rfl)) (fun cdv A outer s H E hgd hr => ?_) m_law_cell
  exact d_law_cell (f_blt c KX G) hgd hr 
theorem f_law_box (c : SaysX hFa hFn hEx K) (KX : K.In h) (G : h.Ns mainGlobals mg) : FnD P w K mg base 1 "_law_box" 1 sBox := by
  obtain ⟨fd, F⟩ := c.d.def_ 11 (d := hd_law_box) rfl
  refine FnD.mk' (k := 0) (N := N_law_box) (ps := p_law_box) F S_law_box (He.glo_ok KX G (c.d.fact 11 (f := .glo "_law_box") rfl)) (F.bindsN fun _ _ _ _ _ _ us hl => match us, hl with | [_], _ => rfl) ((fun ds st Q E q => by obtain ⟨_, rfl, _⟩ := q; rfl)) (fun cdv A outer s H E hgd hr => ?_) m_law_box
  exact d_law_box (f_blt c KX G) hgd hr 
theorem f_law_take (c : SaysX hFa hFn hEx K) (KX : K.In h) (G : h.Ns mainGlobals mg) : FnD P w K mg base 1 "_law_take" 2 sTake := by
  obtain ⟨fd, F⟩ := c.d.def_ 12 (d := hd_law_take) rfl
  refine FnD.mk' (k := 0) (N := N_law_take) (ps := p_law_take) F S_law_take (He.glo_ok KX G (c.d.fact 12 (f := .glo "_law_take") rfl)) (F.bindsN fun _ _ _ _ _ _ us hl => match us, hl with | [_, _], _ => rfl) ((fun ds st Q E q => by obtain ⟨_, _, _, _, _, _, rfl, _⟩ := q; rfl)) (fun cdv A outer s H E hgd hr => ?_) m_law_take
  exact d_law_take (f_blt c KX G) hgd hr 
theorem f_law_mixed (c : SaysX hFa hFn hEx K) (KX : K.In h) (G : h.Ns mainGlobals mg) : FnD P w K mg base 2 "_law_mixed" 2 sMixed := by
  obtain ⟨fd, F⟩ := c.d.def_ 13 (d := hd_law_mixed) rfl
  refine FnD.mk' (k := 1) (N := N_law_mixed) (ps := p_law_mixed) F S_law_mixed (He.glo_ok KX G (c.d.fact 13 (f := .glo "_law_mixed") rfl)) (F.bindsN fun _ _ _ _ _ _ us hl => match us, hl with | [_, _], _ => rfl) ((fun ds st Q E q => by obtain ⟨_, _, _, _, _, _, _, rfl, _⟩ := q; rfl)) (fun cdv A outer s H E hgd hr => ?_) m_law_mixed
  exact d_law_mixed (f_blt c KX G) hgd hr (F_law_take := (f_law_take c KX G).mono (by decide))
theorem f_law_roads (c : SaysX hFa hFn hEx K) (KX : K.In h) (G : h.Ns mainGlobals mg) : FnD P w K mg base 3 "_law_roads" 2 sRoads := by
  obtain ⟨fd, F⟩ := c.d.def_ 14 (d := hd_law_roads) rfl
  refine FnD.mk' (k := 2) (N := N_law_roads) (ps := p_law_roads) F S_law_roads (He.glo_ok KX G (c.d.fact 14 (f := .glo "_law_roads") rfl)) (F.bindsN fun _ _ _ _ _ _ us hl => match us, hl with | [_, _], _ => rfl) ((fun ds st Q E q => by obtain ⟨_, _, _, _, _, _, rfl, _⟩ := q; rfl)) (fun cdv A outer s H E hgd hr => ?_) m_law_roads
  exact d_law_roads (f_blt c KX G) hgd hr (F_law_take := (f_law_take c KX G).mono (by decide)) (F_law_mixed := (f_law_mixed c KX G).mono (by decide))
theorem f_law_near (c : SaysX hFa hFn hEx K) (KX : K.In h) (G : h.Ns mainGlobals mg) : FnD P w K mg base 1 "_law_near" 2 sNear := by
  obtain ⟨fd, F⟩ := c.d.def_ 15 (d := hd_law_near) rfl
  refine FnD.mk' (k := 0) (N := N_law_near) (ps := p_law_near) F S_law_near (He.glo_ok KX G (c.d.fact 15 (f := .glo "_law_near") rfl)) (F.bindsN fun _ _ _ _ _ _ us hl => match us, hl with | [_, _], _ => rfl) ((fun ds st Q E q => by obtain ⟨_, _, _, rfl, _⟩ := q; rfl)) (fun cdv A outer s H E hgd hr => ?_) m_law_near
  exact d_law_near (f_blt c KX G) hgd hr 
theorem f_law_is0 (c : SaysX hFa hFn hEx K) (KX : K.In h) (G : h.Ns mainGlobals mg) : FnD P w K mg base 0 "_law_is" 2 fun _ _ _ _ => False := by
  obtain ⟨fd, F⟩ := c.d.def_ 16 (d := hd_law_is) rfl
  exact FnD.none (ps := p_law_is) F S_law_is (He.glo_ok KX G (c.d.fact 16 (f := .glo "_law_is") rfl)) (F.bindsN fun _ _ _ _ _ _ us hl => match us, hl with | [_, _], _ => rfl)
theorem f_law_is1 (c : SaysX hFa hFn hEx K) (KX : K.In h) (G : h.Ns mainGlobals mg) : FnD P w K mg base 1 "_law_is" 2 sIs1 := by
  obtain ⟨fd, F⟩ := c.d.def_ 16 (d := hd_law_is) rfl
  refine FnD.mk' (k := 0) (N := N_law_is) (ps := p_law_is) F S_law_is (He.glo_ok KX G (c.d.fact 16 (f := .glo "_law_is") rfl)) (F.bindsN fun _ _ _ _ _ _ us hl => match us, hl with | [_, _], _ => rfl) ((fun ds st Q E q => by obtain ⟨_, rfl, _⟩ := q; rfl)) (fun cdv A outer s H E hgd hr => ?_) m_law_is1
  exact d_law_is (f_blt c KX G) hgd hr (F_law_is := (f_law_is0 c KX G).mono (by decide))
theorem f_law_is (c : SaysX hFa hFn hEx K) (KX : K.In h) (G : h.Ns mainGlobals mg) : FnD P w K mg base 2 "_law_is" 2 sIs2 := by
  obtain ⟨fd, F⟩ := c.d.def_ 16 (d := hd_law_is) rfl
  refine FnD.mk' (k := 1) (N := N_law_is) (ps := p_law_is) F S_law_is (He.glo_ok KX G (c.d.fact 16 (f := .glo "_law_is") rfl)) (F.bindsN fun _ _ _ _ _ _ us hl => match us, hl with | [_, _], _ => rfl) ((fun ds st Q E q => by rcases q with ⟨_, rfl, _⟩ | ⟨_, _, _, rfl, _⟩ <;> rfl)) (fun cdv A outer s H E hgd hr => ?_) m_law_is2
  exact d_law_is (f_blt c KX G) hgd hr (F_law_is := (f_law_is1 c KX G).mono (by decide))
theorem f_law_very (c : SaysX hFa hFn hEx K) (KX : K.In h) (G : h.Ns mainGlobals mg) : FnD P w K mg base 1 "_law_very" 2 sVery := by
  obtain ⟨fd, F⟩ := c.d.def_ 17 (d := hd_law_very) rfl
  refine FnD.mk' (k := 0) (N := N_law_very) (ps := p_law_very) F S_law_very (He.glo_ok KX G (c.d.fact 17 (f := .glo "_law_very") rfl)) (F.bindsN fun _ _ _ _ _ _ us hl => match us, hl with | [_, _], _ => rfl) ((fun ds st Q E q => by rcases q with ⟨_, rfl, _⟩ | ⟨_, _, _, rfl, _⟩ | ⟨_, _, rfl, _⟩ <;> rfl)) (fun cdv A outer s H E hgd hr => ?_) m_law_very
  exact db_either (d_law_very (f_blt c KX G) hgd hr) (d_law_veryP (f_blt c KX G) hgd hr)
theorem f_law_row (c : SaysX hFa hFn hEx K) (KX : K.In h) (G : h.Ns mainGlobals mg) : FnD P w K mg base 2 "_law_row" 2 sLawRow := by
  obtain ⟨fd, F⟩ := c.d.def_ 18 (d := hd_law_row) rfl
  refine FnD.mk' (k := 1) (N := N_law_row) (ps := p_law_row) F S_law_row (He.glo_ok KX G (c.d.fact 18 (f := .glo "_law_row") rfl)) (F.bindsN fun _ _ _ _ _ _ us hl => match us, hl with | [_, _], _ => rfl) ((fun ds st Q E q => by obtain ⟨_, _, _, _, _, rfl, _⟩ := q; rfl)) (fun cdv A outer s H E hgd hr => ?_) m_law_row
  exact d_law_row (f_blt c KX G) hgd hr (F_law_near := (f_law_near c KX G).mono (by decide))
theorem f_law_all_rows (c : SaysX hFa hFn hEx K) (KX : K.In h) (G : h.Ns mainGlobals mg) : FnD P w K mg base 1 "_law_all_rows" 1 sAllRows := by
  obtain ⟨fd, F⟩ := c.d.def_ 19 (d := hd_law_all_rows) rfl
  refine FnD.mk' (k := 0) (N := N_law_all_rows) (ps := p_law_all_rows) F S_law_all_rows (He.glo_ok KX G (c.d.fact 19 (f := .glo "_law_all_rows") rfl)) (F.bindsN fun _ _ _ _ _ _ us hl => match us, hl with | [_], _ => rfl) ((fun ds st Q E q => by obtain ⟨_, rfl, _⟩ := q; rfl)) (fun cdv A outer s H E hgd hr => ?_) m_law_all_rows
  exact d_law_all_rows (f_blt c KX G) hgd hr 
theorem f_law_asked (c : SaysX hFa hFn hEx K) (KX : K.In h) (G : h.Ns mainGlobals mg) : FnD P w K mg base 8 "_law_asked" 2 sAsked := by
  obtain ⟨fd, F⟩ := c.d.def_ 20 (d := hd_law_asked) rfl
  refine FnD.mk' (k := 7) (N := N_law_asked) (ps := p_law_asked) F S_law_asked (He.glo_ok KX G (c.d.fact 20 (f := .glo "_law_asked") rfl)) (F.bindsN fun _ _ _ _ _ _ us hl => match us, hl with | [_, _], _ => rfl) ((fun ds st Q E q => by obtain ⟨_, _, rfl, _⟩ := q; rfl)) (fun cdv A outer s H E hgd hr => ?_) m_law_asked
  exact d_law_asked (f_blt c KX G) hgd hr (F_tree_of_row := (f_tree_of_row c KX G).mono (by decide)) (XS := f_XS c KX G)
theorem f_law_refused_right (c : SaysX hFa hFn hEx K) (KX : K.In h) (G : h.Ns mainGlobals mg) : FnD P w K mg base 9 "_law_refused_right" 3 sRefused := by
  obtain ⟨fd, F⟩ := c.d.def_ 21 (d := hd_law_refused_right) rfl
  refine FnD.mk' (k := 8) (N := N_law_refused_right) (ps := p_law_refused_right) F S_law_refused_right (He.glo_ok KX G (c.d.fact 21 (f := .glo "_law_refused_right") rfl)) (F.bindsN fun _ _ _ _ _ _ us hl => match us, hl with | [_, _, _], _ => rfl) ((fun ds st Q E q => by obtain ⟨_, _, _, _, _, _, _, rfl, _⟩ := q; rfl)) (fun cdv A outer s H E hgd hr => ?_) m_law_refused_right
  exact d_law_refused_right (f_blt c KX G) hgd hr (F_law_take := (f_law_take c KX G).mono (by decide)) (F_law_asked := (f_law_asked c KX G).mono (by decide)) (F_law_very := (f_law_very c KX G).mono (by decide))
theorem f_law (c : SaysX hFa hFn hEx K) (KX : K.In h) (G : h.Ns mainGlobals mg) {fd : FuncData} (F : FunD K "law" "law" (defArgs s_law) (defBody s_law) (defScope s_law) [] [] (He.ga K "law") fd) : FnG P w K mg base (L2.CX P w) 10 (He.ga K "law") fd p_law (toSp ⟨K, mg⟩ 1 sLaw) := by
  refine fnG_mk (k := 9) (N := N_law) (ps := p_law) F S_law (fun cdv A outer s H E hgd hr => ?_) m_law
  exact d_law (f_blt c KX G) hgd hr (hk1 := by decide) (M_Tree := f_M_Tree c KX G) (F_law_all_rows := (f_law_all_rows c KX G).mono (by decide)) (F_tree_of_row := (f_tree_of_row c KX G).mono (by decide)) (F_law_box := (f_law_box c KX G).mono (by decide)) (F_law_cell := (f_law_cell c KX G).mono (by decide)) (F_law_roads := (f_law_roads c KX G).mono (by decide)) (F_row_of := (f_row_of c KX G).mono (by decide)) (F_law_is := (f_law_is c KX G).mono (by decide)) (F_law_near := (f_law_near c KX G).mono (by decide)) (F_law_row := (f_law_row c KX G).mono (by decide)) (F_law_take := (f_law_take c KX G).mono (by decide)) (F_law_refused_right := (f_law_refused_right c KX G).mono (by decide)) (C_Tree := f_C_Tree c KX G) (Q_Tree := f_Q_Tree c KX G (by decide)) (L_Tree_line := f_L_Tree_line c KX G (by decide)) (XS := f_XS c KX G)
end
theorem law_bind {K : PySem.W.Frag} (c : SaysX hFa hFn hEx K) : ∃ fd, (∀ (s : Shared) (u : Value), BindsTo s fd ⟨[u], []⟩ [("script", u)]) ∧ FunD K "law" "law" (defArgs s_law) (defBody s_law) (defScope s_law) [] [] (He.ga K "law") fd := by
  obtain ⟨fd, F⟩ := c.d.def_ 22 (d := hd_law) rfl
  have b := FunD.bindsA (ps := ["script"]) F fun _ _ _ _ _ _ us hl => match us, hl with | [_], _ => rfl
  exact ⟨fd, fun s v => b s [v] rfl, F⟩
end Mf.L_k92
set_option Elab.async false
set_option maxRecDepth 100000
open PySem PySem.W PySem.Calls PyProof.Rows
set_option maxHeartbeats 0 in
theorem PySem.Challenge.cw_mapfound_k92_whole_rows_of_trees_holds : PySem.Challenge.rw_mapfound_k92_whole_rows_of_trees.Holds := by
  w_on; o_law
  refine HandSHeadRun.head_any (r := OpenLaw.row PySem.Challenge.rw_mapfound_k92_whole_rows_of_trees) (q := view (OpenLaw.row PySem.Challenge.rw_mapfound_k92_whole_rows_of_trees).prog [34]) (H := Mf.L_k92.hHook) (ob := Mf.L_k92.hOb) (M := 20000) (loose := Mf.L_k92.hLoose)
    (d := HandSHeadRun.topDef (OpenLaw.row PySem.Challenge.rw_mapfound_k92_whole_rows_of_trees).prog 34) (kwd := []) Mf.L_k92.hOb_eq (by kernel_rfl) (fun s => by kernel_rfl) Mf.L_k92.hRun (by kernel_rfl) (by kernel_rfl) (by kernel_rfl) (by rfl) (by first | assumption | decide +kernel) (by decide +kernel) ⟨rfl, rfl, rfl, rfl, rfl, by decide +kernel⟩ ?hw ?hc
  case hw => w_witness2
  case hc =>
    refine Mf.walkG (l := PySem.Challenge.rw_mapfound_k92_whole_rows_of_trees) (n := 63) (k := 10) (x := "script") rfl (by decide) (by kernel_rfl) ⟨rfl, by decide, by decide⟩ ?F
    intro w mg fa h Y G hm0
    obtain ⟨K, KX, c⟩ := Y
    have hm : mg ("law" : PySem.Str) = some (.ref fa) := by
      have e : (HandSHeadRun.topDef (OpenLaw.row PySem.Challenge.rw_mapfound_k92_whole_rows_of_trees).prog 34).name = ("law" : PySem.Str) := by kernel_rfl
      rw [← e]
      exact hm0
    obtain rfl : He.ga K "law" = fa := by
      have e := (He.glo_ok KX G (c.faB (f := .glo "law") (List.mem_append_left _ (by simp [Mf.L_k92.hFaA])))).symm.trans hm
      cases e
      rfl
    obtain ⟨fd, b, F⟩ := Mf.L_k92.law_bind c
    refine ⟨K, fd, Mf.L_k92.sLaw, KX, b, fun ns hl => ⟨ns, rfl, hl, fun _ => rfl⟩, fun base kb gb => ?_⟩
    exact Mf.L_k92.f_law c kb gb F
