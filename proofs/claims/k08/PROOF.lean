import PyProof.Rows.All
import HandS.ForExc
import HandS.ForMost
import KE.SortData
import HandS.TupAny
import HandS.Deep
import HandS.IsInst
import HandS.Wide
import HandS.Codes
import HandS.TupLe
import HandS.Flow
import HandS.More
import HandS.Conv
import HandS.Text
import HandS.TryElse
import HandS.Strs
import HandS.SetTxt0
import HandS.SetFor
import HandS.ExcInit
import HandS.ExcField
import HandS.DictTup
import HandS.Small
import PySem.Challenge.RW_roomtally_k08_tallies_added_and_taken
set_option Elab.async false
set_option linter.all false
set_option maxRecDepth 100000
set_option maxHeartbeats 1000000 -- each

namespace L2.DL
open L2 PyProof.Rows PySem.Spec PySem

/-! ### data as values: lists and dicts are owned (o = true: nobody else holds them, may be changed) or shared (never changed) -/
inductive Val where
  | non | bl (b : Bool) | int (i : Int) | str (s : Str)
  | tup (xs : List Val)
  | lst (o : Bool) (xs : List Val)
  | dT (o : Bool) (ks : List (List Key)) (vs : List Val)
  | dK (o : Bool) (ks : List Key) (vs : List Val)
  | obj (C : Addr) (fs : List Str) (vs : List Val)
  | scr (K : PySem.W.Frag) (ns : List Int)
  /-- a tuple whose own object is known (a room): its methods may be called -/
  | tpz (xs : List Val)

/- F: the heap of what is never changed; H: the heap as it is -/
mutual
inductive Rep (F H : Hp) : V → Val → List Addr → Prop
  | non : Rep F H .non .non []
  | bl (b : Bool) : Rep F H (.bl b) (.bl b) []
  | int (i : Int) : Rep F H (.int i) (.int i) []
  | str (s : Str) : Rep F H (.str s) (.str s) []
  | tup {a : Addr} {xs : List V} {ws : List Val} {fp : List Addr} : F a = some (.tup xs) → Reps F H xs ws fp → Rep F H (.ref a) (.tup ws) fp
  | lsh {a : Addr} {xs : List V} {ws : List Val} {fp : List Addr} : F a = some (.lst xs) → Reps F H xs ws fp → Rep F H (.ref a) (.lst false ws) fp
  | low {a : Addr} {xs : List V} {ws : List Val} {fp : List Addr} : H a = some (.lst xs) → Reps F H xs ws fp → Rep F H (.ref a) (.lst true ws) (a :: fp)
  | tsh {a : Addr} {ks : List (List Key)} {xs : List V} {ws : List Val} {fp : List Addr} : F a = some (.dT (ks.zip xs)) → ks.length = xs.length → Reps F H xs ws fp → Rep F H (.ref a) (.dT false ks ws) fp
  | tow {a : Addr} {ks : List (List Key)} {xs : List V} {ws : List Val} {fp : List Addr} : H a = some (.dT (ks.zip xs)) → ks.length = xs.length → Reps F H xs ws fp → Rep F H (.ref a) (.dT true ks ws) (a :: fp)
  | ksh {a : Addr} {ks : List Key} {xs : List V} {ws : List Val} {fp : List Addr} : F a = some (.dK (ks.zip xs)) → ks.length = xs.length → Reps F H xs ws fp → Rep F H (.ref a) (.dK false ks ws) fp
  | kow {a : Addr} {ks : List Key} {xs : List V} {ws : List Val} {fp : List Addr} : H a = some (.dK (ks.zip xs)) → ks.length = xs.length → Reps F H xs ws fp → Rep F H (.ref a) (.dK true ks ws) (a :: fp)
  | obj {a dx C : Addr} {fs : List Str} {xs : List V} {ws : List Val} {fp : List Addr} : H a = some (.ins C dx (fs.zip xs)) → H dx = some (.own a) → fs.length = xs.length → Reps F H xs ws fp → Rep F H (.ref a) (.obj C fs ws) (a :: dx :: fp)
  | scr {a : Addr} {K : PySem.W.Frag} {ns : List Int} : SqL K F a (ns.map V.int) → Rep F H (.ref a) (.scr K ns) []
  | tpz {a : Addr} {ob : Obj} {xs : List V} {ws : List Val} {fp : List Addr} : F a = some (.frz ob (.tup xs)) → (ob.cls = .type "tuple" ∧ ob.dict = none) → Reps F H xs ws fp → Rep F H (.ref a) (.tpz ws) fp
inductive Reps (F H : Hp) : List V → List Val → List Addr → Prop
  | nil : Reps F H [] [] []
  | cons {v : V} {vs : List V} {w : Val} {ws : List Val} {f1 f2 : List Addr} : Rep F H v w f1 → Reps F H vs ws f2 → Reps F H (v :: vs) (w :: ws) (f1 ++ f2)
end

def Le (F H : Hp) : Prop := ∀ a o, F a = some o → H a = some o
theorem Le.refl (F : Hp) : Le F F := fun _ _ h => h
theorem Le.trans {F G H : Hp} (a : Le F G) (b : Le G H) : Le F H := fun x o h => b x o (a x o h)

mutual
theorem Rep.mono {F H F' H' : Hp} (hF : Le F F') : ∀ {w : Val} {v : V} {fp : List Addr}, (∀ a ∈ fp, H' a = H a) → Rep F H v w fp → Rep F' H' v w fp
  | .non, _, _, _, h => by cases h; exact .non
  | .bl _, _, _, _, h => by cases h; exact .bl _
  | .int _, _, _, _, h => by cases h; exact .int _
  | .str _, _, _, _, h => by cases h; exact .str _
  | .tup ws, _, _, k, h => by
    cases h with
    | tup h1 h2 => exact .tup (hF _ _ h1) (Reps.mono hF k h2)
  | .tpz ws, _, _, k, h => by
    cases h with
    | tpz h1 h0 h2 => exact .tpz (hF _ _ h1) h0 (Reps.mono hF k h2)
  | .lst false ws, _, _, k, h => by
    cases h with
    | lsh h1 h2 => exact .lsh (hF _ _ h1) (Reps.mono hF k h2)
  | .lst true ws, _, _, k, h => by
    cases h with
    | low h1 h2 => exact .low ((k _ List.mem_cons_self).trans h1) (Reps.mono hF (fun a ha => k a (List.mem_cons_of_mem _ ha)) h2)
  | .dT false ks ws, _, _, k, h => by
    cases h with
    | tsh h1 hl h2 => exact .tsh (hF _ _ h1) hl (Reps.mono hF k h2)
  | .dT true ks ws, _, _, k, h => by
    cases h with
    | tow h1 hl h2 => exact .tow ((k _ List.mem_cons_self).trans h1) hl (Reps.mono hF (fun a ha => k a (List.mem_cons_of_mem _ ha)) h2)
  | .dK false ks ws, _, _, k, h => by
    cases h with
    | ksh h1 hl h2 => exact .ksh (hF _ _ h1) hl (Reps.mono hF k h2)
  | .dK true ks ws, _, _, k, h => by
    cases h with
    | kow h1 hl h2 => exact .kow ((k _ List.mem_cons_self).trans h1) hl (Reps.mono hF (fun a ha => k a (List.mem_cons_of_mem _ ha)) h2)
  | .obj C fs ws, _, _, k, h => by
    cases h with
    | obj h1 hd hl h2 => exact .obj ((k _ List.mem_cons_self).trans h1) ((k _ (List.mem_cons_of_mem _ List.mem_cons_self)).trans hd) hl (Reps.mono hF (fun a ha => k a (List.mem_cons_of_mem _ (List.mem_cons_of_mem _ ha))) h2)
  | .scr K ns, _, _, _, h => by
    cases h with
    | scr h1 => exact .scr (Same.seq hF h1)
theorem Reps.mono {F H F' H' : Hp} (hF : Le F F') : ∀ {ws : List Val} {vs : List V} {fp : List Addr}, (∀ a ∈ fp, H' a = H a) → Reps F H vs ws fp → Reps F' H' vs ws fp
  | [], _, _, _, h => by cases h; exact .nil
  | w :: ws, _, _, k, h => by
    cases h with
    | cons h1 h2 => exact .cons (Rep.mono hF (fun a ha => k a (List.mem_append_left _ ha)) h1) (Reps.mono hF (fun a ha => k a (List.mem_append_right _ ha)) h2)
end
mutual
theorem Rep.dom {F H : Hp} : ∀ {w : Val} {v : V} {fp : List Addr}, Rep F H v w fp → ∀ a ∈ fp, H a ≠ none
  | .non, _, _, h => by cases h; intro a ha; cases ha
  | .bl _, _, _, h => by cases h; intro a ha; cases ha
  | .int _, _, _, h => by cases h; intro a ha; cases ha
  | .str _, _, _, h => by cases h; intro a ha; cases ha
  | .tup ws, _, _, h => by
    cases h with
    | tup h1 h2 => exact Reps.dom h2
  | .tpz ws, _, _, h => by
    cases h with
    | tpz h1 h0 h2 => exact Reps.dom h2
  | .lst false ws, _, _, h => by
    cases h with
    | lsh h1 h2 => exact Reps.dom h2
  | .lst true ws, _, _, h => by
    cases h with
    | low h1 h2 =>
      intro a ha
      rcases List.mem_cons.mp ha with rfl | ha
      · rw [h1]; simp
      · exact Reps.dom h2 a ha
  | .dT false ks ws, _, _, h => by
    cases h with
    | tsh h1 hl h2 => exact Reps.dom h2
  | .dT true ks ws, _, _, h => by
    cases h with
    | tow h1 hl h2 =>
      intro a ha
      rcases List.mem_cons.mp ha with rfl | ha
      · rw [h1]; simp
      · exact Reps.dom h2 a ha
  | .dK false ks ws, _, _, h => by
    cases h with
    | ksh h1 hl h2 => exact Reps.dom h2
  | .dK true ks ws, _, _, h => by
    cases h with
    | kow h1 hl h2 =>
      intro a ha
      rcases List.mem_cons.mp ha with rfl | ha
      · rw [h1]; simp
      · exact Reps.dom h2 a ha
  | .obj C fs ws, _, _, h => by
    cases h with
    | obj h1 hd hl h2 =>
      intro a ha
      rcases List.mem_cons.mp ha with rfl | ha
      · rw [h1]; simp
      · rcases List.mem_cons.mp ha with rfl | ha
        · rw [hd]; simp
        · exact Reps.dom h2 a ha
  | .scr K ns, _, _, h => by cases h; intro a ha; cases ha
theorem Reps.dom {F H : Hp} : ∀ {ws : List Val} {vs : List V} {fp : List Addr}, Reps F H vs ws fp → ∀ a ∈ fp, H a ≠ none
  | [], _, _, h => by cases h; intro a ha; cases ha
  | w :: ws, _, _, h => by
    cases h with
    | cons h1 h2 =>
      intro a ha
      rcases List.mem_append.mp ha with ha | ha
      · exact Rep.dom h1 a ha
      · exact Reps.dom h2 a ha
end
mutual
theorem Rep.notup {F H : Hp} : ∀ {w : Val} {v : V} {fp : List Addr}, Rep F H v w fp → ∀ a ∈ fp, ∀ xs, H a ≠ some (.tup xs)
  | .non, _, _, h => by cases h; intro a ha; cases ha
  | .bl _, _, _, h => by cases h; intro a ha; cases ha
  | .int _, _, _, h => by cases h; intro a ha; cases ha
  | .str _, _, _, h => by cases h; intro a ha; cases ha
  | .tup ws, _, _, h => by
    cases h with
    | tup h1 h2 => exact Reps.notup h2
  | .tpz ws, _, _, h => by
    cases h with
    | tpz h1 h0 h2 => exact Reps.notup h2
  | .lst false ws, _, _, h => by
    cases h with
    | lsh h1 h2 => exact Reps.notup h2
  | .lst true ws, _, _, h => by
    cases h with
    | low h1 h2 =>
      intro a ha xs
      rcases List.mem_cons.mp ha with rfl | ha
      · rw [h1]; simp
      · exact Reps.notup h2 a ha xs
  | .dT false ks ws, _, _, h => by
    cases h with
    | tsh h1 hl h2 => exact Reps.notup h2
  | .dT true ks ws, _, _, h => by
    cases h with
    | tow h1 hl h2 =>
      intro a ha xs
      rcases List.mem_cons.mp ha with rfl | ha
      · rw [h1]; simp
      · exact Reps.notup h2 a ha xs
  | .dK false ks ws, _, _, h => by
    cases h with
    | ksh h1 hl h2 => exact Reps.notup h2
  | .dK true ks ws, _, _, h => by
    cases h with
    | kow h1 hl h2 =>
      intro a ha xs
      rcases List.mem_cons.mp ha with rfl | ha
      · rw [h1]; simp
      · exact Reps.notup h2 a ha xs
  | .obj C fs ws, _, _, h => by
    cases h with
    | obj h1 hd hl h2 =>
      intro a ha xs
      rcases List.mem_cons.mp ha with rfl | ha
      · rw [h1]; simp
      · rcases List.mem_cons.mp ha with rfl | ha
        · rw [hd]; simp
        · exact Reps.notup h2 a ha xs
  | .scr _ _, _, _, h => by cases h; intro a ha; cases ha
theorem Reps.notup {F H : Hp} : ∀ {ws : List Val} {vs : List V} {fp : List Addr}, Reps F H vs ws fp → ∀ a ∈ fp, ∀ xs, H a ≠ some (.tup xs)
  | [], _, _, h => by cases h; intro a ha; cases ha
  | w :: ws, _, _, h => by
    cases h with
    | cons h1 h2 =>
      intro a ha xs
      rcases List.mem_append.mp ha with ha | ha
      · exact Rep.notup h1 a ha xs
      · exact Reps.notup h2 a ha xs
end
theorem Reps.length {F H : Hp} : ∀ {vs : List V} {ws : List Val} {fp : List Addr}, Reps F H vs ws fp → vs.length = ws.length
  | _, [], _, h => by cases h; rfl
  | _, w :: ws, _, h => by
    cases h with
    | cons h1 h2 => simp [Reps.length h2]

/-! ### flags -/
mutual
/-- nothing owned within -/
def noOwn : Val → Bool
  | .non => true | .bl _ => true | .int _ => true | .str _ => true
  | .tup ws => noOwns ws
  | .tpz ws => noOwns ws
  | .lst o ws => !o && noOwns ws
  | .dT o _ ws => !o && noOwns ws
  | .dK o _ ws => !o && noOwns ws
  | .obj _ _ _ => false
  | .scr _ _ => true
def noOwns : List Val → Bool
  | [] => true
  | w :: ws => noOwn w && noOwns ws
end
mutual
/-- no shared list or dict within -/
def noSh : Val → Bool
  | .non => true | .bl _ => true | .int _ => true | .str _ => true
  | .tup ws => noShs ws
  | .tpz _ => false
  | .lst o ws => o && noShs ws
  | .dT o _ ws => o && noShs ws
  | .dK o _ ws => o && noShs ws
  | .obj _ _ ws => noShs ws
  | .scr _ _ => false
def noShs : List Val → Bool
  | [] => true
  | w :: ws => noSh w && noShs ws
end
mutual
/-- everything shared from now on -/
def frz : Val → Val
  | .non => .non | .bl b => .bl b | .int i => .int i | .str s => .str s
  | .tup ws => .tup (frzs ws)
  | .tpz ws => .tpz (frzs ws)
  | .lst _ ws => .lst false (frzs ws)
  | .dT _ ks ws => .dT false ks (frzs ws)
  | .dK _ ks ws => .dK false ks (frzs ws)
  | .obj C fs ws => .obj C fs ws
  | .scr K ns => .scr K ns
def frzs : List Val → List Val
  | [] => []
  | w :: ws => frz w :: frzs ws
end
mutual
/-- no own instance within -/
def noObj : Val → Bool
  | .non => true | .bl _ => true | .int _ => true | .str _ => true
  | .tup ws => noObjs ws
  | .tpz ws => noObjs ws
  | .lst _ ws => noObjs ws
  | .dT _ _ ws => noObjs ws
  | .dK _ _ ws => noObjs ws
  | .obj _ _ _ => false
  | .scr _ _ => true
def noObjs : List Val → Bool
  | [] => true
  | w :: ws => noObj w && noObjs ws
end
mutual
theorem Rep.nofp {F H : Hp} : ∀ {w : Val} {v : V} {fp : List Addr}, noOwn w = true → Rep F H v w fp → fp = []
  | .non, _, _, _, h => by cases h; rfl
  | .bl _, _, _, _, h => by cases h; rfl
  | .int _, _, _, _, h => by cases h; rfl
  | .str _, _, _, _, h => by cases h; rfl
  | .tup ws, _, _, n, h => by
    cases h with
    | tup h1 h2 => exact Reps.nofp (by simpa [noOwn] using n) h2
  | .tpz ws, _, _, n, h => by
    cases h with
    | tpz h1 h0 h2 => exact Reps.nofp (by simpa [noOwn] using n) h2
  | .lst false ws, _, _, n, h => by
    cases h with
    | lsh h1 h2 => exact Reps.nofp (by simpa [noOwn] using n) h2
  | .lst true ws, _, _, n, h => by simp [noOwn] at n
  | .dT false ks ws, _, _, n, h => by
    cases h with
    | tsh h1 hl h2 => exact Reps.nofp (by simpa [noOwn] using n) h2
  | .dT true ks ws, _, _, n, h => by simp [noOwn] at n
  | .dK false ks ws, _, _, n, h => by
    cases h with
    | ksh h1 hl h2 => exact Reps.nofp (by simpa [noOwn] using n) h2
  | .dK true ks ws, _, _, n, h => by simp [noOwn] at n
  | .obj C fs ws, _, _, n, h => by simp [noOwn] at n
  | .scr K ns, _, _, _, h => by cases h; rfl
theorem Reps.nofp {F H : Hp} : ∀ {ws : List Val} {vs : List V} {fp : List Addr}, noOwns ws = true → Reps F H vs ws fp → fp = []
  | [], _, _, _, h => by cases h; rfl
  | w :: ws, _, _, n, h => by
    cases h with
    | cons h1 h2 =>
      simp only [noOwns, Bool.and_eq_true] at n
      rw [Rep.nofp n.1 h1, Reps.nofp n.2 h2]; rfl
end
mutual
/-- all of it goes over to what is never changed -/
theorem Rep.frz {F H F' H' : Hp} (hF : Le F F') : ∀ {w : Val} {v : V} {fp : List Addr}, noObj w = true → (∀ a ∈ fp, F' a = H a) → Rep F H v w fp → Rep F' H' v (frz w) []
  | .non, _, _, _, _, h => by cases h; exact .non
  | .bl _, _, _, _, _, h => by cases h; exact .bl _
  | .int _, _, _, _, _, h => by cases h; exact .int _
  | .str _, _, _, _, _, h => by cases h; exact .str _
  | .tup ws, _, _, n, k, h => by
    cases h with
    | tup h1 h2 => exact .tup (hF _ _ h1) (Reps.frz hF (by simpa [noObj] using n) k h2)
  | .tpz ws, _, _, n, k, h => by
    cases h with
    | tpz h1 h0 h2 => exact .tpz (hF _ _ h1) h0 (Reps.frz hF (by simpa [noObj] using n) k h2)
  | .lst false ws, _, _, n, k, h => by
    cases h with
    | lsh h1 h2 => exact .lsh (hF _ _ h1) (Reps.frz hF (by simpa [noObj] using n) k h2)
  | .lst true ws, _, _, n, k, h => by
    cases h with
    | low h1 h2 => exact .lsh ((k _ List.mem_cons_self).trans h1) (Reps.frz hF (by simpa [noObj] using n) (fun a ha => k a (List.mem_cons_of_mem _ ha)) h2)
  | .dT false ks ws, _, _, n, k, h => by
    cases h with
    | tsh h1 hl h2 => exact .tsh (hF _ _ h1) hl (Reps.frz hF (by simpa [noObj] using n) k h2)
  | .dT true ks ws, _, _, n, k, h => by
    cases h with
    | tow h1 hl h2 => exact .tsh ((k _ List.mem_cons_self).trans h1) hl (Reps.frz hF (by simpa [noObj] using n) (fun a ha => k a (List.mem_cons_of_mem _ ha)) h2)
  | .dK false ks ws, _, _, n, k, h => by
    cases h with
    | ksh h1 hl h2 => exact .ksh (hF _ _ h1) hl (Reps.frz hF (by simpa [noObj] using n) k h2)
  | .dK true ks ws, _, _, n, k, h => by
    cases h with
    | kow h1 hl h2 => exact .ksh ((k _ List.mem_cons_self).trans h1) hl (Reps.frz hF (by simpa [noObj] using n) (fun a ha => k a (List.mem_cons_of_mem _ ha)) h2)
  | .obj C fs ws, _, _, n, _, h => by simp [noObj] at n
  | .scr K ns, _, _, _, _, h => by
    cases h with
    | scr h1 => exact .scr (Same.seq hF h1)
theorem Reps.frz {F H F' H' : Hp} (hF : Le F F') : ∀ {ws : List Val} {vs : List V} {fp : List Addr}, noObjs ws = true → (∀ a ∈ fp, F' a = H a) → Reps F H vs ws fp → Reps F' H' vs (frzs ws) []
  | [], _, _, _, _, h => by cases h; exact .nil
  | w :: ws, _, _, n, k, h => by
    cases h with
    | cons h1 h2 =>
      simp only [noObjs, Bool.and_eq_true] at n
      exact .cons (f1 := []) (f2 := []) (Rep.frz hF n.1 (fun a ha => k a (List.mem_append_left _ ha)) h1) (Reps.frz hF n.2 (fun a ha => k a (List.mem_append_right _ ha)) h2)
end
mutual
/-- where nothing is shared, the tuples are enough -/
theorem Rep.unsh {F H F' : Hp} (hF : ∀ a xs, F a = some (.tup xs) → F' a = some (.tup xs)) : ∀ {w : Val} {v : V} {fp : List Addr}, noSh w = true → Rep F H v w fp → Rep F' H v w fp
  | .non, _, _, _, h => by cases h; exact .non
  | .bl _, _, _, _, h => by cases h; exact .bl _
  | .int _, _, _, _, h => by cases h; exact .int _
  | .str _, _, _, _, h => by cases h; exact .str _
  | .tup ws, _, _, n, h => by
    cases h with
    | tup h1 h2 => exact .tup (hF _ _ h1) (Reps.unsh hF (by simpa [noSh] using n) h2)
  | .tpz ws, _, _, n, h => by simp [noSh] at n
  | .lst false ws, _, _, n, h => by simp [noSh] at n
  | .lst true ws, _, _, n, h => by
    cases h with
    | low h1 h2 => exact .low h1 (Reps.unsh hF (by simpa [noSh] using n) h2)
  | .dT false ks ws, _, _, n, h => by simp [noSh] at n
  | .dT true ks ws, _, _, n, h => by
    cases h with
    | tow h1 hl h2 => exact .tow h1 hl (Reps.unsh hF (by simpa [noSh] using n) h2)
  | .dK false ks ws, _, _, n, h => by simp [noSh] at n
  | .dK true ks ws, _, _, n, h => by
    cases h with
    | kow h1 hl h2 => exact .kow h1 hl (Reps.unsh hF (by simpa [noSh] using n) h2)
  | .obj C fs ws, _, _, n, h => by
    cases h with
    | obj h1 hd hl h2 => exact .obj h1 hd hl (Reps.unsh hF (by simpa [noSh] using n) h2)
  | .scr K ns, _, _, n, h => by simp [noSh] at n
theorem Reps.unsh {F H F' : Hp} (hF : ∀ a xs, F a = some (.tup xs) → F' a = some (.tup xs)) : ∀ {ws : List Val} {vs : List V} {fp : List Addr}, noShs ws = true → Reps F H vs ws fp → Reps F' H vs ws fp
  | [], _, _, _, h => by cases h; exact .nil
  | w :: ws, _, _, n, h => by
    cases h with
    | cons h1 h2 =>
      simp only [noShs, Bool.and_eq_true] at n
      exact .cons (Rep.unsh hF n.1 h1) (Reps.unsh hF n.2 h2)
end

/-! ### as plain data -/
mutual
def toPy : Val → Option PyData
  | .non => some .none | .bl b => some (.bool b) | .int i => some (.int i) | .str s => some (.str s)
  | .tup ws => (toPys ws).map .tuple
  | .tpz ws => (toPys ws).map .tuple
  | .lst _ ws => (toPys ws).map .list
  | .dT _ _ _ => none
  | .dK _ _ _ => none
  | .obj _ _ _ => none
  | .scr _ _ => none
def toPys : List Val → Option (List PyData)
  | [] => some []
  | w :: ws => (toPy w).bind fun d => (toPys ws).map fun ds => d :: ds
end
mutual
theorem Rep.dp {K : PySem.W.Frag} {F H : Hp} (hF : Le F H) : ∀ {w : Val} {v : V} {fp : List Addr} {d : PyData}, toPy w = some d → Rep F H v w fp → Dp K H v d
  | .non, _, _, _, e, h => by cases h; cases e; exact .non
  | .bl _, _, _, _, e, h => by cases h; cases e; exact .bl _
  | .int _, _, _, _, e, h => by cases h; cases e; exact .int _
  | .str _, _, _, _, e, h => by cases h; cases e; exact .str _
  | .tup ws, _, _, _, e, h => by
    cases h with
    | tup h1 h2 =>
      simp only [toPy, Option.map_eq_some_iff] at e
      obtain ⟨ds, e1, rfl⟩ := e
      exact .tup (.of (hF _ _ h1)) (Reps.dp hF e1 h2)
  | .tpz ws, _, _, _, e, h => by
    cases h with
    | tpz h1 h0 h2 =>
      simp only [toPy, Option.map_eq_some_iff] at e
      obtain ⟨ds, e1, rfl⟩ := e
      exact .tup (.inl (.inr ⟨_, hF _ _ h1⟩)) (Reps.dp hF e1 h2)
  | .lst false ws, _, _, _, e, h => by
    cases h with
    | lsh h1 h2 =>
      simp only [toPy, Option.map_eq_some_iff] at e
      obtain ⟨ds, e1, rfl⟩ := e
      exact .lst (.of (hF _ _ h1)) (Reps.dp hF e1 h2)
  | .lst true ws, _, _, _, e, h => by
    cases h with
    | low h1 h2 =>
      simp only [toPy, Option.map_eq_some_iff] at e
      obtain ⟨ds, e1, rfl⟩ := e
      exact .lst (.of h1) (Reps.dp hF e1 h2)
  | .dT _ _ _, _, _, _, e, _ => by simp [toPy] at e
  | .dK _ _ _, _, _, _, e, _ => by simp [toPy] at e
  | .obj _ _ _, _, _, _, e, _ => by simp [toPy] at e
  | .scr _ _, _, _, _, e, _ => by simp [toPy] at e
theorem Reps.dp {K : PySem.W.Frag} {F H : Hp} (hF : Le F H) : ∀ {ws : List Val} {vs : List V} {fp : List Addr} {ds : List PyData}, toPys ws = some ds → Reps F H vs ws fp → DpAll K H vs ds
  | [], _, _, _, e, h => by cases h; cases e; exact .nil
  | w :: ws, _, _, _, e, h => by
    cases h with
    | cons h1 h2 =>
      simp only [toPys, Option.bind_eq_some_iff, Option.map_eq_some_iff] at e
      obtain ⟨d, e1, ds, e2, rfl⟩ := e
      exact .cons (Rep.dp hF e1 h1) (Reps.dp hF e2 h2)
end
theorem Reps.get {F H : Hp} : ∀ {vs : List V} {ws : List Val} {fp : List Addr} {i : Nat} {w : Val}, Reps F H vs ws fp → ws[i]? = some w → ∃ v g, vs[i]? = some v ∧ Rep F H v w g ∧ ∀ a, g.count a ≤ fp.count a
  | _, [], _, _, _, _, e => by simp at e
  | _, w :: ws, _, 0, _, h, e => by
    cases h with
    | cons h1 h2 =>
      simp at e; subst e
      exact ⟨_, _, rfl, h1, fun a => by simp⟩
  | _, w :: ws, _, i + 1, _, h, e => by
    cases h with
    | cons h1 h2 =>
      obtain ⟨v, g, e1, r, c⟩ := Reps.get (i := i) h2 (by simpa using e)
      exact ⟨v, g, by simpa using e1, r, fun a => by have := c a; simp; omega⟩
theorem Reps.none_of {F H : Hp} {vs : List V} {ws : List Val} {fp : List Addr} {i : Nat} (h : Reps F H vs ws fp) (e : ws[i]? = none) : vs[i]? = none := by
  have := h.length
  rw [List.getElem?_eq_none_iff] at e ⊢
  omega
theorem Reps.append {F H : Hp} : ∀ {vs vs' : List V} {ws ws' : List Val} {f g : List Addr}, Reps F H vs ws f → Reps F H vs' ws' g → Reps F H (vs ++ vs') (ws ++ ws') (f ++ g)
  | _, _, [], _, _, _, h, h' => by cases h; exact h'
  | _, _, w :: ws, _, _, _, h, h' => by
    cases h with
    | cons h1 h2 =>
      rw [List.append_assoc]
      exact .cons h1 (Reps.append h2 h')
end L2.DL

namespace L2.DL
open L2 PyProof.Rows PySem.Spec PySem

/-! ### the slots -/
abbrev Slots := List (Option Val)
inductive RepL (F H : Hp) : List (Option V) → Slots → List Addr → Prop
  | nil : RepL F H [] [] []
  | dead {v : Option V} {vs : List (Option V)} {ws : Slots} {fp : List Addr} : RepL F H vs ws fp → RepL F H (v :: vs) (none :: ws) fp
  | live {v : V} {vs : List (Option V)} {w : Val} {ws : Slots} {f1 f2 : List Addr} : Rep F H v w f1 → RepL F H vs ws f2 → RepL F H (some v :: vs) (some w :: ws) (f1 ++ f2)
section
variable {F H F' H' : Hp}
theorem RepL.length {vs : List (Option V)} {ws : Slots} {fp : List Addr} (h : RepL F H vs ws fp) : vs.length = ws.length := by
  induction h with
  | nil => rfl
  | dead _ ih => simp [ih]
  | live _ _ ih => simp [ih]
theorem RepL.mono {vs : List (Option V)} {ws : Slots} {fp : List Addr} (hF : Le F F') (h : RepL F H vs ws fp) (k : ∀ a ∈ fp, H' a = H a) : RepL F' H' vs ws fp := by
  induction h with
  | nil => exact .nil
  | dead _ ih => exact .dead (ih k)
  | live h1 _ ih => exact .live (h1.mono hF fun a ha => k a (List.mem_append_left _ ha)) (ih fun a ha => k a (List.mem_append_right _ ha))
theorem RepL.dom {vs : List (Option V)} {ws : Slots} {fp : List Addr} (h : RepL F H vs ws fp) : ∀ a ∈ fp, H a ≠ none := by
  induction h with
  | nil => intro a ha; cases ha
  | dead _ ih => exact ih
  | live h1 _ ih =>
    intro a ha
    rcases List.mem_append.mp ha with ha | ha
    · exact h1.dom a ha
    · exact ih a ha
theorem RepL.notup {vs : List (Option V)} {ws : Slots} {fp : List Addr} (h : RepL F H vs ws fp) : ∀ a ∈ fp, ∀ xs, H a ≠ some (.tup xs) := by
  induction h with
  | nil => intro a ha; cases ha
  | dead _ ih => exact ih
  | live h1 _ ih =>
    intro a ha
    rcases List.mem_append.mp ha with ha | ha
    · exact h1.notup a ha
    · exact ih a ha
theorem RepL.append {vs : List (Option V)} {ws : Slots} {f : List Addr} (h : RepL F H vs ws f) : ∀ {vs' : List (Option V)} {ws' : Slots} {g : List Addr}, RepL F H vs' ws' g → RepL F H (vs ++ vs') (ws ++ ws') (f ++ g) := by
  induction h with
  | nil => intro _ _ _ h'; exact h'
  | dead _ ih => intro _ _ _ h'; exact .dead (ih h')
  | live h1 _ ih => intro _ _ _ h'; rw [List.append_assoc]; exact .live h1 (ih h')
theorem RepL.split : ∀ {vs vs' : List (Option V)} {ws ws' : Slots} {f : List Addr}, vs.length = ws.length → RepL F H (vs ++ vs') (ws ++ ws') f → ∃ f1 f2, RepL F H vs ws f1 ∧ RepL F H vs' ws' f2 ∧ f = f1 ++ f2
  | [], _, [], _, _, _, h => ⟨[], _, .nil, h, rfl⟩
  | [], _, _ :: _, _, _, e, _ => by simp at e
  | _ :: _, _, [], _, _, e, _ => by simp at e
  | v :: vs, vs', none :: ws, ws', f, e, h => by
    cases h with
    | dead h =>
      obtain ⟨f1, f2, h1, h2, rfl⟩ := RepL.split (by simpa using e) h
      exact ⟨f1, f2, .dead h1, h2, rfl⟩
  | v :: vs, vs', some w :: ws, ws', f, e, h => by
    cases h with
    | live h0 h =>
      obtain ⟨f1, f2, h1, h2, rfl⟩ := RepL.split (by simpa using e) h
      exact ⟨_ ++ f1, f2, .live h0 h1, h2, by simp⟩
theorem RepL.get : ∀ {vs : List (Option V)} {ws : Slots} {fp : List Addr} {i : Nat} {w : Val}, RepL F H vs ws fp → ws[i]? = some (some w) → ∃ v g, vs[i]? = some (some v) ∧ Rep F H v w g ∧ ∀ a, g.count a ≤ fp.count a
  | _, _, _, _, _, .nil, e => by simp at e
  | _, _, _, 0, _, .dead _, e => by simp at e
  | _, _, _, i + 1, _, .dead h, e => by
    obtain ⟨v, g, e1, r, c⟩ := RepL.get (i := i) h (by simpa using e)
    exact ⟨v, g, by simpa using e1, r, c⟩
  | _, _, _, 0, _, .live h1 _, e => by
    simp at e; subst e
    exact ⟨_, _, rfl, h1, fun a => by simp⟩
  | _, _, _, i + 1, _, .live h1 h, e => by
    obtain ⟨v, g, e1, r, c⟩ := RepL.get (i := i) h (by simpa using e)
    exact ⟨v, g, by simpa using e1, r, fun a => by have := c a; simp; omega⟩
/-- a slot is stored -/
theorem RepL.set {v : V} {w : Val} {g : List Addr} (r : Rep F H v w g) : ∀ {vs : List (Option V)} {ws : Slots} {fp : List Addr} (i : Nat), RepL F H vs ws fp → ∃ f', RepL F H (vs.set i (some v)) (ws.set i (some w)) f' ∧ ∀ a, f'.count a ≤ fp.count a + g.count a
  | _, _, _, _, .nil => ⟨[], .nil, fun a => by simp⟩
  | _, _, _, 0, .dead h => ⟨_, .live r h, fun a => by simp; omega⟩
  | _, _, _, i + 1, .dead h => by
    obtain ⟨f', h', c⟩ := RepL.set r i h
    exact ⟨f', .dead h', c⟩
  | _, _, _, 0, .live h1 h => ⟨_, .live r h, fun a => by simp; omega⟩
  | _, _, _, i + 1, .live h1 h => by
    obtain ⟨f', h', c⟩ := RepL.set r i h
    exact ⟨_, .live h1 h', fun a => by have := c a; simp; omega⟩
/-- a slot is forgotten -/
theorem RepL.kill {v : Option V} : ∀ {vs : List (Option V)} {ws : Slots} {fp : List Addr} (i : Nat), RepL F H vs ws fp → ∃ f', RepL F H (vs.set i v) (ws.set i none) f' ∧ ∀ a, f'.count a ≤ fp.count a
  | _, _, _, _, .nil => ⟨[], .nil, fun a => by simp⟩
  | _, _, _, 0, .dead h => ⟨_, .dead h, fun a => by simp⟩
  | _, _, _, i + 1, .dead h => by
    obtain ⟨f', h', c⟩ := RepL.kill (v := v) i h
    exact ⟨f', .dead h', c⟩
  | _, _, _, 0, .live h1 h => ⟨_, .dead h, fun a => by simp⟩
  | _, _, _, i + 1, .live h1 h => by
    obtain ⟨f', h', c⟩ := RepL.kill (v := v) i h
    exact ⟨_, .live h1 h', fun a => by have := c a; simp; omega⟩
/-- what stands in a slot is changed where it stands, the rest of the heap is kept -/
theorem RepL.upd : ∀ {vs : List (Option V)} {ws : Slots} {fp : List Addr} {i : Nat} {w : Val}, RepL F H vs ws fp → (∀ a, fp.count a ≤ 1) → ws[i]? = some (some w) → ∃ (v : V) (g r : List Addr), vs[i]? = some (some v) ∧ Rep F H v w g ∧ (∀ a, g.count a + r.count a = fp.count a) ∧
    ∀ {F' H' : Hp} {w' : Option Val} {g' : List Addr}, Le F F' → (∀ a ∈ r, H' a = H a) → (∀ u, w' = some u → Rep F' H' v u g') → ∃ f', RepL F' H' vs (ws.set i w') f' ∧ ∀ a, f'.count a ≤ g'.count a + r.count a
  | _, _, _, _, _, .nil, _, e => by simp at e
  | _, _, _, 0, _, .dead _, _, e => by simp at e
  | _, _, _, i + 1, _, .dead h, n, e => by
    obtain ⟨v, g, r, e1, rw, c, k⟩ := RepL.upd (i := i) h n (by simpa using e)
    refine ⟨v, g, r, by simpa using e1, rw, c, fun hF hH hw => ?_⟩
    obtain ⟨f', h', c'⟩ := k hF hH hw
    exact ⟨f', .dead h', c'⟩
  | _, _, _, 0, _, @RepL.live _ _ v0 _ w0 _ f1 f2 h1 h, n, e => by
    simp at e; subst e
    refine ⟨_, f1, f2, rfl, h1, fun a => by rw [List.count_append], fun {F' H' w' g'} hF hH hw => ?_⟩
    cases w' with
    | none => exact ⟨_, .dead (h.mono hF hH), fun a => by omega⟩
    | some u => exact ⟨_, .live (hw u rfl) (h.mono hF hH), fun a => by rw [List.count_append]; omega⟩
  | _, _, _, i + 1, _, @RepL.live _ _ v0 _ w0 _ f1 f2 h1 h, n, e => by
    obtain ⟨v, g, r, e1, rw, c, k⟩ := RepL.upd (i := i) h (fun a => by have := n a; rw [List.count_append] at this; omega) (by simpa using e)
    refine ⟨v, g, f1 ++ r, by simpa using e1, rw, fun a => by have := c a; rw [List.count_append, List.count_append]; omega, fun hF hH hw => ?_⟩
    obtain ⟨f', h', c'⟩ := k hF (fun a ha => hH a (List.mem_append_right _ ha)) hw
    exact ⟨_, .live (h1.mono hF fun a ha => hH a (List.mem_append_left _ ha)) h', fun a => by have := c' a; rw [List.count_append, List.count_append]; omega⟩
theorem RepL.of_reps : ∀ {vs : List V} {ws : List Val} {fp : List Addr}, Reps F H vs ws fp → RepL F H (vs.map some) (ws.map some) fp
  | _, [], _, h => by cases h; exact .nil
  | _, w :: ws, _, h => by
    cases h with
    | cons h1 h2 => exact .live h1 (RepL.of_reps h2)
theorem RepL.reps : ∀ {vs : List V} {ws : List Val} {fp : List Addr}, RepL F H (vs.map some) (ws.map some) fp → Reps F H vs ws fp
  | [], [], _, h => by cases h; exact .nil
  | [], _ :: _, _, h => by cases h
  | _ :: _, [], _, h => by cases h
  | v :: vs, w :: ws, _, h => by
    cases h with
    | live h1 h2 => exact .cons h1 (RepL.reps h2)
theorem RepL.nones : ∀ {vs : List (Option V)}, RepL F H vs (List.replicate vs.length none) []
  | [] => .nil
  | v :: vs => .dead RepL.nones
end
theorem mem_of_count {a : Addr} {l : List Addr} (h : 0 < l.count a) : a ∈ l := List.count_pos_iff.mp h
theorem count_of_mem {a : Addr} {l : List Addr} (h : a ∈ l) : 0 < l.count a := List.count_pos_iff.mpr h

/-! ### the state of a body: at the entry the heap H0, what is never changed F0, what may be changed P0, the arguments S0 -/
structure Base where
  H0 : Hp
  F0 : Hp
  P0 : List Addr
  S0 : List V
structure SRf (B : Base) (F H : Hp) (σ : St) (ρ : Slots) (τ : List (Option V)) (θ : Slots) (f1 f2 : List Addr) : Prop where
  s : RepL F H σ ρ f1
  t : RepL F H τ θ f2
  le1 : ∀ a, f1.count a + f2.count a ≤ 1
  own : ∀ a, 0 < f1.count a + f2.count a → F a = none ∧ (a ∈ B.P0 ∨ B.H0 a = none)
  FH : Le F H
  F0 : Le B.F0 F
  keep : ∀ a o, B.H0 a = some o → a ∉ B.P0 → H a = some o
  dom : ∀ a, H a = none → B.H0 a = none
  new : ∀ a, F a ≠ none → B.F0 a ≠ none ∨ B.H0 a = none ∨ a ∈ B.P0 ∨ ∃ xs, F a = some (.tup xs)
  pin : ∀ (i : Nat) (v : V), B.S0[i]? = some v → σ[i]? = some (some v)
def SR (B : Base) (F H : Hp) (σ : St) (ρ : Slots) (τ : List (Option V)) (θ : Slots) : Prop := ∃ f1 f2, SRf B F H σ ρ τ θ f1 f2

/-- the heap grew -/
structure Ext (F H F' H' : Hp) : Prop where
  leH : Le H H'
  leF : Le F F'
  FH : Le F' H'
  new : ∀ a, F' a ≠ none → F a ≠ none ∨ H a = none ∨ ∃ xs, F' a = some (.tup xs)
theorem Ext.refl {F H : Hp} (h : Le F H) : Ext F H F H := ⟨Le.refl _, Le.refl _, h, fun _ => .inl⟩
theorem Ext.trans {F H F1 H1 F2 H2 : Hp} (a : Ext F H F1 H1) (b : Ext F1 H1 F2 H2) : Ext F H F2 H2 := by
  refine ⟨a.leH.trans b.leH, a.leF.trans b.leF, b.FH, fun x hx => ?_⟩
  rcases b.new x hx with h | h | h
  · rcases a.new x h with z | z | ⟨xs, z⟩
    · exact .inl z
    · exact .inr (.inl z)
    · exact .inr (.inr ⟨xs, b.leF x _ z⟩)
  rotate_left
  · exact .inr (.inr h)
  · refine .inr (.inl ?_)
    cases q : H x with
    | none => rfl
    | some o => rw [a.leH x o q] at h; cases h
theorem Ext.keepH {F H F' H' : Hp} (e : Ext F H F' H') {a : Addr} (h : H a ≠ none) : H' a = H a := by
  cases q : H a with
  | none => exact absurd q h
  | some o => exact e.leH a o q
theorem Ext.none {F H F' H' : Hp} (e : Ext F H F' H') {a : Addr} (h : H' a = none) : H a = none := by
  cases q : H a with
  | none => rfl
  | some o => rw [e.leH a o q] at h; cases h
theorem Rep.ext {F H F' H' : Hp} {w : Val} {v : V} {fp : List Addr} (e : Ext F H F' H') (h : Rep F H v w fp) : Rep F' H' v w fp := h.mono e.leF fun a ha => e.keepH (h.dom a ha)
theorem Reps.ext {F H F' H' : Hp} {w : List Val} {v : List V} {fp : List Addr} (e : Ext F H F' H') (h : Reps F H v w fp) : Reps F' H' v w fp := h.mono e.leF fun a ha => e.keepH (h.dom a ha)
theorem RepL.ext {F H F' H' : Hp} {w : Slots} {v : List (Option V)} {fp : List Addr} (e : Ext F H F' H') (h : RepL F H v w fp) : RepL F' H' v w fp := h.mono e.leF fun a ha => e.keepH (h.dom a ha)
section
variable {B : Base} {F H F' H' : Hp} {σ : St} {ρ : Slots} {τ : List (Option V)} {θ : Slots} {f1 f2 : List Addr}
theorem SRf.domOwn (s : SRf B F H σ ρ τ θ f1 f2) {a : Addr} (h : 0 < f1.count a + f2.count a) : H a ≠ none := by
  by_cases h1 : 0 < f1.count a
  · exact s.s.dom a (mem_of_count h1)
  · exact s.t.dom a (mem_of_count (by omega))
theorem SRf.notup (s : SRf B F H σ ρ τ θ f1 f2) {a : Addr} (h : 0 < f1.count a + f2.count a) : ∀ xs, H a ≠ some (.tup xs) := by
  by_cases h1 : 0 < f1.count a
  · exact s.s.notup a (mem_of_count h1)
  · exact s.t.notup a (mem_of_count (by omega))
theorem SRf.ext (s : SRf B F H σ ρ τ θ f1 f2) (e : Ext F H F' H') : SRf B F' H' σ ρ τ θ f1 f2 where
  s := s.s.ext e
  t := s.t.ext e
  le1 := s.le1
  own := fun a ha => by
    obtain ⟨h1, h2⟩ := s.own a ha
    refine ⟨?_, h2⟩
    cases q : F' a with
    | none => rfl
    | some o =>
      rcases e.new a (by rw [q]; simp) with z | z | ⟨xs, z⟩
      · exact absurd h1 z
      · exact absurd z (s.domOwn ha)
      · have h3 := e.FH a _ z
        rw [e.keepH (s.domOwn ha)] at h3
        exact absurd h3 (s.notup ha xs)
  FH := e.FH
  F0 := s.F0.trans e.leF
  keep := fun a o h1 h2 => e.leH a o (s.keep a o h1 h2)
  dom := fun a h => s.dom a (e.none h)
  new := fun a h => by
    rcases e.new a h with z | z | z
    · rcases s.new a z with y | y | y | ⟨xs, y⟩
      · exact .inl y
      · exact .inr (.inl y)
      · exact .inr (.inr (.inl y))
      · exact .inr (.inr (.inr ⟨xs, e.leF a _ y⟩))
    · exact .inr (.inl (s.dom a z))
    · exact .inr (.inr (.inr z))
  pin := s.pin
theorem SR.ext (s : SR B F H σ ρ τ θ) (e : Ext F H F' H') : SR B F' H' σ ρ τ θ := let ⟨f1, f2, h⟩ := s; ⟨f1, f2, h.ext e⟩
theorem SR.FH (s : SR B F H σ ρ τ θ) : Le F H := let ⟨_, _, h⟩ := s; h.FH
theorem SR.len (s : SR B F H σ ρ τ θ) : σ.length = ρ.length := let ⟨_, _, h⟩ := s; h.s.length
/-- a new value -/
def Nw (F' H H' : Hp) (u : V) (w : Val) : Prop := ∃ g, Rep F' H' u w g ∧ (∀ a, g.count a ≤ 1) ∧ ∀ a ∈ g, H a = none ∧ F' a = none
/-- a value that is looked at -/
def Pk (F H : Hp) (u : V) (w : Val) : Prop := ∃ g, Rep F H u w g
theorem Nw.pk {u : V} {w : Val} (h : Nw F' H H' u w) : Pk F' H' u w := let ⟨g, r, _⟩ := h; ⟨g, r⟩
theorem Nw.of {u : V} {w : Val} (h : Rep F' H' u w []) : Nw F' H H' u w := ⟨[], h, fun a => by simp, fun a ha => by cases ha⟩
theorem Nw.of_pk {u : V} {w : Val} (n : noOwn w = true) (h : Pk F' H' u w) : Nw F' H H' u w := by
  obtain ⟨g, r⟩ := h
  have := r.nofp n
  subst this
  exact .of r
/-- .. as one more root -/
theorem SR.push {u : V} {w : Val} (s : SR B F H σ ρ τ θ) (e : Ext F H F' H') (n : Nw F' H H' u w) : SR B F' H' σ ρ (some u :: τ) (some w :: θ) := by
  obtain ⟨f1, f2, s⟩ := s
  obtain ⟨g, r, c, k⟩ := n
  have s' := s.ext e
  have dis : ∀ a, 0 < g.count a → f1.count a + f2.count a = 0 := fun a ha => by
    by_cases z : 0 < f1.count a + f2.count a
    · exact absurd (k a (mem_of_count ha)).1 (s.domOwn z)
    · omega
  refine ⟨f1, g ++ f2, s'.s, .live r s'.t, fun a => ?_, fun a ha => ?_, s'.FH, s'.F0, s'.keep, s'.dom, s'.new, s'.pin⟩
  · have h1 := s.le1 a
    have h2 := c a
    rw [List.count_append]
    by_cases z : 0 < g.count a
    · have := dis a z; omega
    · omega
  · rw [List.count_append] at ha
    by_cases z : 0 < g.count a
    · obtain ⟨k1, k2⟩ := k a (mem_of_count z)
      exact ⟨k2, .inr (s.dom a k1)⟩
    · exact s'.own a (by omega)
theorem SR.pop {x : Option V} {y : Option Val} (s : SR B F H σ ρ (x :: τ) (y :: θ)) : SR B F H σ ρ τ θ := by
  obtain ⟨f1, f2, s⟩ := s
  obtain ⟨s1, t, c, o, FH, F0, keep, dom, new, pin⟩ := s
  cases t with
  | dead t => exact ⟨_, _, s1, t, c, o, FH, F0, keep, dom, new, pin⟩
  | @live _ _ _ _ g f h1 t =>
    exact ⟨_, _, s1, t, fun a => by have := c a; rw [List.count_append] at this; omega, fun a ha => o a (by rw [List.count_append]; omega), FH, F0, keep, dom, new, pin⟩
theorem SR.top {u : V} {w : Val} (s : SR B F H σ ρ (some u :: τ) (some w :: θ)) : Pk F H u w := by
  obtain ⟨f1, f2, s⟩ := s
  cases s.t with
  | live h1 t => exact ⟨_, h1⟩
/-- the top root goes into a slot -/
theorem SR.store {u : V} {w : Val} {i : Nat} (s : SR B F H σ ρ (some u :: τ) (some w :: θ)) (hi : B.S0.length ≤ i) : SR B F H (σ.set i (some u)) (ρ.set i (some w)) τ θ := by
  obtain ⟨f1, f2, s1, t, c, o, FH, F0, keep, dom, new, pin⟩ := s
  cases t with
  | @live _ _ _ _ g f h1 t =>
    obtain ⟨f', r', c'⟩ := RepL.set h1 i s1
    refine ⟨f', f, r', t, fun a => ?_, fun a ha => ?_, FH, F0, keep, dom, new, fun j v hj => ?_⟩
    · have := c a; have := c' a; rw [List.count_append] at *; omega
    · have := c' a; exact o a (by rw [List.count_append]; omega)
    · have hlt : j < B.S0.length := (List.getElem?_eq_some_iff.mp hj).1
      rw [List.getElem?_set_ne (by omega)]
      exact pin j v hj
/-- a slot is forgotten -/
theorem SR.kill {i : Nat} {x : Option V} (s : SR B F H σ ρ τ θ) (hi : B.S0.length ≤ i) : SR B F H (σ.set i x) (ρ.set i none) τ θ := by
  obtain ⟨f1, f2, s1, t, c, o, FH, F0, keep, dom, new, pin⟩ := s
  obtain ⟨f', r', c'⟩ := RepL.kill (v := x) i s1
  refine ⟨f', f2, r', t, fun a => ?_, fun a ha => ?_, FH, F0, keep, dom, new, fun j v hj => ?_⟩
  · have := c a; have := c' a; omega
  · have := c' a; exact o a (by omega)
  · have hlt : j < B.S0.length := (List.getElem?_eq_some_iff.mp hj).1
    rw [List.getElem?_set_ne (by omega)]
    exact pin j v hj
theorem SR.get {i : Nat} {w : Val} (s : SR B F H σ ρ τ θ) (h : ρ[i]? = some (some w)) : ∃ v, σ[i]? = some (some v) ∧ Pk F H v w := by
  obtain ⟨f1, f2, s⟩ := s
  obtain ⟨v, g, e, r, _⟩ := s.s.get h
  exact ⟨v, e, g, r⟩
/-- a slot's value goes over to the roots (moved) -/
theorem SR.move {i : Nat} {w : Val} (s : SR B F H σ ρ τ θ) (h : ρ[i]? = some (some w)) : ∃ v, σ[i]? = some (some v) ∧ SR B F H σ (ρ.set i none) (some v :: τ) (some w :: θ) := by
  obtain ⟨f1, f2, s⟩ := s
  obtain ⟨v, g, r, e, rw, c, k⟩ := s.s.upd (fun a => by have := s.le1 a; omega) h
  obtain ⟨f', r', c'⟩ := k (w' := none) (g' := []) (Le.refl _) (fun _ _ => rfl) (fun u z => by cases z)
  refine ⟨v, e, f', g ++ f2, r', .live rw s.t, fun a => ?_, fun a ha => ?_, s.FH, s.F0, s.keep, s.dom, s.new, s.pin⟩
  · have := s.le1 a; have := c a; have := c' a; simp only [List.count_nil] at *; rw [List.count_append]; omega
  · have := c a; have := c' a; simp only [List.count_nil] at *; rw [List.count_append] at ha; exact s.own a (by omega)
/-- a slot that may be copied -/
theorem SR.copy {i : Nat} {w : Val} (s : SR B F H σ ρ τ θ) (h : ρ[i]? = some (some w)) (n : noOwn w = true) : ∃ v, σ[i]? = some (some v) ∧ SR B F H σ ρ (some v :: τ) (some w :: θ) := by
  obtain ⟨v, e, p⟩ := s.get h
  exact ⟨v, e, s.push (.refl s.FH) (.of_pk n p)⟩
end
/-- all of these go over to what is never changed -/
def join (F H : Hp) (fp : List Addr) : Hp := fun a => if a ∈ fp then H a else F a
theorem join_mem {F H : Hp} {fp : List Addr} {a : Addr} (h : a ∈ fp) : join F H fp a = H a := if_pos h
theorem join_not {F H : Hp} {fp : List Addr} {a : Addr} (h : a ∉ fp) : join F H fp a = F a := if_neg h
theorem join_le {F H : Hp} {fp : List Addr} (h : Le F H) : Le F (join F H fp) := fun a o e => by
  by_cases z : a ∈ fp
  · rw [join_mem z]; exact h a o e
  · rw [join_not z]; exact e
theorem join_H {F H : Hp} {fp : List Addr} (h : Le F H) : Le (join F H fp) H := fun a o e => by
  by_cases z : a ∈ fp
  · rw [join_mem z] at e; exact e
  · rw [join_not z] at e; exact h a o e
section
variable {B : Base} {F H F' H' : Hp} {σ : St} {ρ : Slots} {τ : List (Option V)} {θ : Slots} {f1 f2 : List Addr}
/-- the slot i is shared from now on -/
theorem SR.freeze {i : Nat} {w : Val} (s : SR B F H σ ρ τ θ) (h : ρ[i]? = some (some w)) (n : noObj w = true) : ∃ F', Le F F' ∧ SR B F' H σ (ρ.set i (some (frz w))) τ θ := by
  obtain ⟨f1, f2, s⟩ := s
  obtain ⟨v, g, r, e, rw, c, k⟩ := s.s.upd (fun a => by have := s.le1 a; omega) h
  obtain ⟨f', r', c'⟩ := k (F' := join F H g) (H' := H) (w' := some (frz w)) (g' := []) (join_le s.FH) (fun _ _ => rfl) (fun u z => by cases z; exact rw.frz (join_le s.FH) n fun a ha => join_mem ha)
  refine ⟨join F H g, join_le s.FH, f', f2, r', s.t.mono (join_le s.FH) fun _ _ => rfl, fun a => ?_, fun a ha => ?_, join_H s.FH, s.F0.trans (join_le s.FH), s.keep, s.dom, fun a ha => ?_, s.pin⟩
  · have := s.le1 a; have := c a; have := c' a; simp only [List.count_nil] at *; omega
  · have h1 := s.le1 a; have h2 := c a; have h3 := c' a; simp only [List.count_nil] at *
    have z : a ∉ g := fun z => by have := count_of_mem z; omega
    rw [join_not z]
    exact s.own a (by omega)
  · by_cases z : a ∈ g
    · have h2 := c a; have := count_of_mem z
      obtain ⟨_, h⟩ := s.own a (by omega)
      rcases h with h | h
      · exact .inr (.inr (.inl h))
      · exact .inr (.inl h)
    · rw [join_not z] at ha ⊢; exact s.new a ha
/-- the top root is shared from now on -/
theorem SR.freezeTop {u : V} {w : Val} (s : SR B F H σ ρ (some u :: τ) (some w :: θ)) (n : noObj w = true) : ∃ F', Le F F' ∧ SR B F' H σ ρ (some u :: τ) (some (frz w) :: θ) := by
  obtain ⟨f1, f2, s⟩ := s
  obtain ⟨s1, t, c, o, FH, F0, keep, dom, new, pin⟩ := s
  cases t with
  | @live _ _ _ _ g f h1 t =>
    refine ⟨join F H g, join_le FH, f1, [] ++ f, s1.mono (join_le FH) fun _ _ => rfl, .live (h1.frz (join_le FH) n fun a ha => join_mem ha) (t.mono (join_le FH) fun _ _ => rfl), fun a => ?_, fun a ha => ?_, join_H FH, F0.trans (join_le FH), keep, dom, fun a ha => ?_, pin⟩
    · have := c a; rw [List.count_append] at this; simp; omega
    · have h1 := c a; rw [List.count_append] at h1; simp at ha
      have z : a ∉ g := fun z => by have := count_of_mem z; omega
      rw [join_not z]
      exact o a (by rw [List.count_append]; omega)
    · by_cases z : a ∈ g
      · have := count_of_mem z
        obtain ⟨_, h⟩ := o a (by rw [List.count_append]; omega)
        rcases h with h | h
        · exact .inr (.inr (.inl h))
        · exact .inr (.inl h)
      · rw [join_not z] at ha ⊢; exact new a ha
end
end L2.DL

namespace L2.DL
open L2 PyProof.Rows PySem.Spec PySem

/-! ### denotations -/
/-- of what only looks -/
abbrev P (α : Type) := Slots → Option α
/-- of what may change slots' things and may raise -/
inductive R (α : Type) where
  | ok (a : α) (ρ : Slots)
  | err (c : Str) (pl : Option (Str × Val)) (ρ : Slots)
  | bad
abbrev M (α : Type) := Slots → R α
def R.bind {α β : Type} (x : R α) (g : α → Slots → R β) : R β := match x with
  | .ok a ρ => g a ρ
  | .err c p ρ => .err c p ρ
  | .bad => .bad
@[simp] theorem R.bind_ok {α β : Type} (a : α) (ρ : Slots) (g : α → Slots → R β) : (R.ok a ρ).bind g = g a ρ := rfl
@[simp] theorem R.bind_err {α β : Type} (c : Str) (p : Option (Str × Val)) (ρ : Slots) (g : α → Slots → R β) : (R.err c p ρ).bind g = .err c p ρ := rfl
@[simp] theorem R.bind_bad {α β : Type} (g : α → Slots → R β) : (R.bad : R α).bind g = .bad := rfl

theorem peImp {X : Cx} {e : Expr} {t t' : TE} (h : PE X e t) (k : ∀ σ H Q, t' σ H Q → t σ H Q) : PE X e t' := ⟨fun pins s σ H Q I q => h.run pins s σ H Q I (k σ H Q q)⟩
theorem ptImp {X : Cx} {e : Expr} {t t' : TT} (h : PT X e t) (k : ∀ σ H Q, t' σ H Q → t σ H Q) : PT X e t' := ⟨fun pins s σ H Q I q => h.run pins s σ H Q I (k σ H Q q)⟩
theorem pwImp {X : Cx} {e : Expr} {t t' : TT} (h : PW X e t) (k : ∀ σ H Q, t' σ H Q → t σ H Q) : PW X e t' := ⟨fun wh pins s σ H Q I q => h.run wh pins s σ H Q I (k σ H Q q)⟩
theorem paImp {X : Cx} {e : List Expr} {t t' : TA} (h : PA X e t) (k : ∀ σ H Q, t' σ H Q → t σ H Q) : PA X e t' := ⟨fun pos pins s σ H Q I q => h.run pos pins s σ H Q I (k σ H Q q)⟩
theorem psImp {X : Cx} {e : Stmt} {t t' : TS} (h : PS X e t) (k : ∀ D σ H, t' D σ H → t D σ H) : PS X e t' := ⟨fun pins s σ H D I q => h.run pins s σ H D I (k D σ H q)⟩
theorem pssImp {X : Cx} {e : List Stmt} {t t' : TS} (h : PSs X e t) (k : ∀ D σ H, t' D σ H → t D σ H) : PSs X e t' := ⟨fun pins s σ H D I q => h.run pins s σ H D I (k D σ H q)⟩

/-! ### looking: the readings -/
def tP (f : P Val) : TE := fun σ H Q => ∃ F ρ fp, Le F H ∧ RepL F H σ ρ fp ∧ ∃ w, f ρ = some w ∧ ∀ u F' H', Ext F H F' H' → Pk F' H' u w → Q u H'
def tF (f : P Val) : TE := fun σ H Q => ∃ F ρ fp, Le F H ∧ RepL F H σ ρ fp ∧ ∃ w, f ρ = some w ∧ ∀ u F' H', Ext F H F' H' → Nw F' H H' u w → Q u H'
def PkS (F H : Hp) (us : List V) (ws : List Val) : Prop := ∃ g, Reps F H us ws g
def tPs (f : P (List Val)) : TA := fun σ H Q => ∃ F ρ fp, Le F H ∧ RepL F H σ ρ fp ∧ ∃ w, f ρ = some w ∧ ∀ u F' H', Ext F H F' H' → PkS F' H' u w → Q u H'
def tPT (f : P Bool) : TT := fun σ H Q => ∃ F ρ fp, Le F H ∧ RepL F H σ ρ fp ∧ ∃ b, f ρ = some b ∧ ∀ F' H', Ext F H F' H' → Q b H'
abbrev DP (X : Cx) (e : Expr) (f : P Val) : Prop := PE X e (tP f)
abbrev DF (X : Cx) (e : Expr) (f : P Val) : Prop := PE X e (tF f)
abbrev DPs (X : Cx) (es : List Expr) (f : P (List Val)) : Prop := PA X es (tPs f)
abbrev DT (X : Cx) (e : Expr) (f : P Bool) : Prop := PT X e (tPT f)
theorem Pk.ext {F H F' H' : Hp} {u : V} {w : Val} (e : Ext F H F' H') (h : Pk F H u w) : Pk F' H' u w := let ⟨g, r⟩ := h; ⟨g, r.ext e⟩
theorem PkS.ext {F H F' H' : Hp} {u : List V} {w : List Val} (e : Ext F H F' H') (h : PkS F H u w) : PkS F' H' u w := let ⟨g, r⟩ := h; ⟨g, r.ext e⟩
theorem Nw.ext {F0 H0 F H F' H' : Hp} {u : V} {w : Val} (e0 : Ext F0 H0 F H) (e : Ext F H F' H') (h : Nw F' H H' u w) : Nw F' H0 H' u w := by
  obtain ⟨g, r, c, k⟩ := h
  exact ⟨g, r, c, fun a ha => ⟨e0.none (k a ha).1, (k a ha).2⟩⟩
section
variable {X : Cx} {e a b : Expr} {es : List Expr} {f fa fb : P Val} {fs : P (List Val)} {pos : Pos}
theorem DF.dp (h : DF X e f) : DP X e f := peImp h fun σ H Q ⟨F, ρ, fp, hF, r, w, ew, k⟩ => ⟨F, ρ, fp, hF, r, w, ew, fun u F' H' x n => k u F' H' x n.pk⟩
def pVar (i : Nat) : P Val := fun ρ => (ρ[i]?).join
theorem dp_var (i : Nat) {x : Str} (hN : X.N[i]? = some x := by rfl) (hv : Vis X.env.scope x := by first | exact Or.inl rfl | exact Or.inr (Or.inl rfl) | exact Or.inr (Or.inr rfl)) (hd : (x == ("__debug__" : Str)) = false := by decide)
    (hcd : (x == ("__classdict__" : Str)) = false := by decide) : DP X (.Name x pos) (pVar i) := peImp (pe_var hN hv hd hcd) fun σ H Q ⟨F, ρ, fp, hF, r, w, ew, k⟩ => by
  have e1 : ρ[i]? = some (some w) := by
    unfold pVar at ew
    cases q : ρ[i]? with
    | none => rw [q] at ew; cases ew
    | some o => rw [q] at ew; cases ew; rfl
  obtain ⟨v, g, ev, rv, _⟩ := r.get e1
  exact ⟨v, ev, k v F H (.refl hF) ⟨g, rv⟩⟩
def pC (w : Val) : P Val := fun _ => some w
theorem df_c {w : Val} {v : V} (h : PE X e (tC v)) (r : ∀ F H, Rep F H v w []) : DF X e (pC w) := peImp h fun σ H Q ⟨F, ρ, fp, hF, rr, w', ew, k⟩ => by
  cases ew
  exact k v F H (.refl hF) (.of (r F H))
theorem df_int {i j} : DF X (.Constant (.int i) j pos) (pC (.int i)) := df_c pe_int fun _ _ => .int _
theorem df_bl {i j} : DF X (.Constant (.bool i) j pos) (pC (.bl i)) := df_c pe_bl fun _ _ => .bl _
theorem df_non {j} : DF X (.Constant .none j pos) (pC .non) := df_c pe_non fun _ _ => .non
theorem df_str {x j} : DF X (.Constant (.str x) j pos) (pC (.str x)) := df_c pe_str fun _ _ => .str _
theorem df_gInt {x : Str} {i : Int} (hg : Gl X x) (hm : ∃ t, X.mg x = some (.int i t)) (hd : (x == ("__debug__" : Str)) = false := by decide) : DF X (.Name x pos) (pC (.int i)) := by
  obtain ⟨t, hm⟩ := hm
  exact df_c (pe_glob (v := .int i) hg hm ⟨t, rfl⟩ hd) fun _ _ => .int _
theorem df_gStr {x : Str} {i : Str} (hg : Gl X x) (hm : ∃ t, X.mg x = some (.str i t)) (hd : (x == ("__debug__" : Str)) = false := by decide) : DF X (.Name x pos) (pC (.str i)) := by
  obtain ⟨t, hm⟩ := hm
  exact df_c (pe_glob (v := .str i) hg hm ⟨t, rfl⟩ hd) fun _ _ => .str _

/-! ### lists of arguments -/
def psNil : P (List Val) := fun _ => some []
def psCons (f : P Val) (fs : P (List Val)) : P (List Val) := fun ρ => (f ρ).bind fun w => (fs ρ).bind fun ws => some (w :: ws)
theorem ds_nil : DPs X [] psNil := paImp pa_nil fun σ H Q ⟨F, ρ, fp, hF, r, w, ew, k⟩ => by
  cases ew
  exact k [] F H (.refl hF) ⟨_, .nil⟩
theorem psCons_some {f : P Val} {fs : P (List Val)} {ρ : Slots} {w : List Val} (h : psCons f fs ρ = some w) : ∃ x xs, f ρ = some x ∧ fs ρ = some xs ∧ w = x :: xs := by
  unfold psCons at h
  simp only [Option.bind_eq_some_iff] at h
  obtain ⟨x, h1, xs, h2, h3⟩ := h
  cases h3
  exact ⟨x, xs, h1, h2, rfl⟩
theorem ds_cons (h1 : DP X e f) (h2 : DPs X es fs) (hs : starEach (e :: es) X.env = (false, eval e X.env) :: starEach es X.env := by rfl) : DPs X (e :: es) (psCons f fs) := paImp (pa_cons h1 h2 hs) fun σ H Q ⟨F, ρ, fp, hF, r, w, ew, k⟩ => by
  obtain ⟨x, xs, e1, e2, rfl⟩ := psCons_some ew
  refine ⟨F, ρ, fp, hF, r, x, e1, fun u F1 H1 x1 p1 => ?_⟩
  refine ⟨F1, ρ, fp, x1.FH, r.ext x1, xs, e2, fun us F2 H2 x2 p2 => ?_⟩
  obtain ⟨g1, r1⟩ := p1
  obtain ⟨g2, r2⟩ := p2
  exact k (u :: us) F2 H2 (x1.trans x2) ⟨_, .cons (r1.ext x2) r2⟩

/-! ### operators of values -/
def VOp1 (r : V → Hp → VK → Prop) (g : Val → Option Val) : Prop := ∀ (F H : Hp) (x : V) (wx w : Val) (Q : VK), Le F H → Pk F H x wx → g wx = some w → (∀ u F' H', Ext F H F' H' → Nw F' H H' u w → Q u H') → r x H Q
def VOp2 (r : R2) (g : Val → Val → Option Val) : Prop := ∀ (F H : Hp) (x y : V) (wx wy w : Val) (Q : VK), Le F H → Pk F H x wx → Pk F H y wy → g wx wy = some w → (∀ u F' H', Ext F H F' H' → Nw F' H H' u w → Q u H') → r x y H Q
def VOpS (r : List V → Hp → VK → Prop) (g : List Val → Option Val) : Prop := ∀ (F H : Hp) (xs : List V) (ws : List Val) (w : Val) (Q : VK), Le F H → PkS F H xs ws → g ws = some w → (∀ u F' H', Ext F H F' H' → Nw F' H H' u w → Q u H') → r xs H Q
def pOp1 (g : Val → Option Val) (fa : P Val) : P Val := fun ρ => (fa ρ).bind g
def pOp2 (g : Val → Val → Option Val) (fa fb : P Val) : P Val := fun ρ => (fa ρ).bind fun x => (fb ρ).bind fun y => g x y
def pOpS (g : List Val → Option Val) (fs : P (List Val)) : P Val := fun ρ => (fs ρ).bind g
theorem tOp_of {r : R2} {g : Val → Val → Option Val} (hv : VOp2 r g) {σ : St} {H : Hp} {Q : VK} (h : tF (pOp2 g fa fb) σ H Q) : tOp r (tP fa) (tP fb) σ H Q := by
  obtain ⟨F, ρ, fp, hF, rr, w, ew, k⟩ := h
  unfold pOp2 at ew
  simp only [Option.bind_eq_some_iff] at ew
  obtain ⟨x, e1, y, e2, e3⟩ := ew
  refine ⟨F, ρ, fp, hF, rr, x, e1, fun u F1 H1 x1 p1 => ?_⟩
  refine ⟨F1, ρ, fp, x1.FH, rr.ext x1, y, e2, fun v F2 H2 x2 p2 => ?_⟩
  exact hv F2 H2 u v x y w Q x2.FH (p1.ext x2) p2 e3 fun z F3 H3 x3 n => k z F3 H3 ((x1.trans x2).trans x3) (n.ext (x1.trans x2) x3)
theorem df_op2 {op : Operator} {r : R2} {g : Val → Val → Option Val} (ho : OpR X (binaryOp op) r) (hv : VOp2 r g) (ha : DP X a fa) (hb : DP X b fb) : DF X (.BinOp a op b pos) (pOp2 g fa fb) := peImp (pe_op ho ha hb) fun _ _ _ h => tOp_of hv h
theorem df_cmp {op : CmpOp} {r : R2} {g : Val → Val → Option Val} (ho : OpR X (compareOp op) r) (hv : VOp2 r g) (ha : DP X a fa) (hb : DP X b fb) (hm : behindInMarks op b = false) : DF X (.Compare a [op] [b] pos) (pOp2 g fa fb) := peImp (pe_cmpR ho ha hb hm) fun _ _ _ h => tOp_of hv h
theorem df_op1 {op : UnaryOp} {r : V → Hp → VK → Prop} {g : Val → Option Val} (ho : UnR X (unaryOp op) r) (hv : VOp1 r g) (ha : DP X a fa) : DF X (.UnaryOp op a pos) (pOp1 g fa) := peImp (pe_un ho ha) fun σ H Q h => by
  obtain ⟨F, ρ, fp, hF, rr, w, ew, k⟩ := h
  unfold pOp1 at ew
  simp only [Option.bind_eq_some_iff] at ew
  obtain ⟨x, e1, e3⟩ := ew
  refine ⟨F, ρ, fp, hF, rr, x, e1, fun u F1 H1 x1 p1 => ?_⟩
  exact hv F1 H1 u x w Q x1.FH p1 e3 fun z F3 H3 x3 n => k z F3 H3 (x1.trans x3) (n.ext x1 x3)
theorem tCB_of {r : List V → Hp → VK → Prop} {g : List Val → Option Val} (hv : VOpS r g) {σ : St} {H : Hp} {Q : VK} (h : tF (pOpS g fs) σ H Q) : tCB r (tPs fs) σ H Q := by
  obtain ⟨F, ρ, fp, hF, rr, w, ew, k⟩ := h
  unfold pOpS at ew
  simp only [Option.bind_eq_some_iff] at ew
  obtain ⟨xs, e1, e3⟩ := ew
  refine ⟨F, ρ, fp, hF, rr, xs, e1, fun u F1 H1 x1 p1 => ?_⟩
  exact hv F1 H1 u xs w Q x1.FH p1 e3 fun z F3 H3 x3 n => k z F3 H3 (x1.trans x3) (n.ext x1 x3)
/-- a built-in function, a built-in class -/
theorem df_callB {x : Str} {p : Pos} {id : String} {r : List V → Hp → VK → Prop} {g : List Val → Option Val} (hc : CallR X (.builtin id) r) (hv : VOpS r g) (hg : Gl X x) (hm : X.mg x = none) (hb : bootBuiltins x = some (.builtin id)) (ha : DPs X (e :: es) fs)
    (hn : x ≠ "__name__" := by decide) (hdb : (x == ("__debug__" : Str)) = false := by decide) (he : starEach (e :: es) X.env = (false, eval e X.env) :: starEach es X.env := by rfl) (hpl : (backTo pos (starEach es X.env)).any (·.1) = false := by rfl) :
    DF X (.Call (.Name x p) (e :: es) [] pos) (pOpS g fs) := peImp (pe_callB hc hg hm hb ha hn hdb he hpl) fun _ _ _ h => tCB_of hv h
theorem df_callTy {x : Str} {p : Pos} {T : String} {r : List V → Hp → VK → Prop} {g : List Val → Option Val} (hc : CallR X (.type T) r) (hv : VOpS r g) (hg : Gl X x) (hm : X.mg x = none) (hb : bootBuiltins x = some (.type T)) (ha : DPs X (e :: es) fs)
    (hn : x ≠ "__name__" := by decide) (hdb : (x == ("__debug__" : Str)) = false := by decide) (he : starEach (e :: es) X.env = (false, eval e X.env) :: starEach es X.env := by rfl) (hpl : (backTo pos (starEach es X.env)).any (·.1) = false := by rfl) :
    DF X (.Call (.Name x p) (e :: es) [] pos) (pOpS g fs) := peImp (pe_callTy hc hg hm hb ha hn hdb he hpl) fun _ _ _ h => tCB_of hv h
/-- an item: what is there is looked at -/
def VIx (r : R2) (g : Val → Val → Option Val) : Prop := ∀ (F H : Hp) (x y : V) (wx wy w : Val) (Q : VK), Le F H → Pk F H x wx → Pk F H y wy → g wx wy = some w → (∀ u, Pk F H u w → Q u H) → r x y H Q
theorem dp_ix {r : R2} {g : Val → Val → Option Val} (ho : IxR X r) (hv : VIx r g) (ha : DP X a fa) (hb : DP X b fb) (hs : PlainIx b) : DP X (.Subscript a b pos) (pOp2 g fa fb) := peImp (pe_ix ho ha hb hs) fun σ H Q h => by
  obtain ⟨F, ρ, fp, hF, rr, w, ew, k⟩ := h
  unfold pOp2 at ew
  simp only [Option.bind_eq_some_iff] at ew
  obtain ⟨x, e1, y, e2, e3⟩ := ew
  refine ⟨F, ρ, fp, hF, rr, x, e1, fun u F1 H1 x1 p1 => ?_⟩
  refine ⟨F1, ρ, fp, x1.FH, rr.ext x1, y, e2, fun v F2 H2 x2 p2 => ?_⟩
  exact hv F2 H2 u v x y w Q x2.FH (p1.ext x2) p2 e3 fun z n => k z F2 H2 (x1.trans x2) n

/-! ### tests -/
def pTest (f : P Val) : P Bool := fun ρ => (f ρ).bind fun w => match w with | .bl b => some b | _ => none
theorem pTest_some {f : P Val} {ρ : Slots} {b : Bool} (h : pTest f ρ = some b) : f ρ = some (.bl b) := by
  unfold pTest at h
  simp only [Option.bind_eq_some_iff] at h
  obtain ⟨w, h1, h2⟩ := h
  cases w <;> simp at h2
  subst h2; exact h1
theorem tB_of {t : TE} {f : P Val} (ht : ∀ σ H Q, tP f σ H Q → t σ H Q) {σ : St} {H : Hp} {Q : Bool → Hp → Prop} (h : tPT (pTest f) σ H Q) : t σ H fun x H1 => ∃ c, x = .bl c ∧ Q c H1 := by
  obtain ⟨F, ρ, fp, hF, rr, b, eb, k⟩ := h
  refine ht _ _ _ ⟨F, ρ, fp, hF, rr, .bl b, pTest_some eb, fun u F' H' x p => ?_⟩
  obtain ⟨g, r⟩ := p
  cases r
  exact ⟨b, rfl, k F' H' x⟩
theorem dt_val (h : DP X e f) (he : ∀ whole, isTrue e X.env whole = (do let v ← whole; standAt e.pos; holding [v] (truthy v)) := by intro _; rfl) : DT X e (pTest f) := ptImp (pt_val h he) fun _ _ _ q => tB_of (fun _ _ _ z => z) q
theorem dt_cmp {op : CmpOp} {r : R2} {g : Val → Val → Option Val} (ho : OpR X (compareOp op) r) (hv : VOp2 r g) (ha : DP X a fa) (hb : DP X b fb) (hm : behindInMarks op b = false) : DT X (.Compare a [op] [b] pos) (pTest (pOp2 g fa fb)) :=
  ptImp (pt_cmpR ho ha hb hm) fun _ _ _ q => tB_of (t := tOp r (tP fa) (tP fb)) (fun σ H Q z => tOp_of hv (by
    obtain ⟨F, ρ, fp, hF, rr, w, ew, k⟩ := z
    exact ⟨F, ρ, fp, hF, rr, w, ew, fun u F' H' x n => k u F' H' x n.pk⟩)) q
variable {ca cb : P Bool} {rest : List Expr}
def pNot (c : P Bool) : P Bool := fun ρ => (c ρ).map (!·)
def pAnd (a b : P Bool) : P Bool := fun ρ => (a ρ).bind fun x => if x = true then b ρ else some false
def pOr (a b : P Bool) : P Bool := fun ρ => (a ρ).bind fun x => if x = true then some true else b ρ
abbrev DW (X : Cx) (e : Expr) (f : P Bool) : Prop := PW X e (tPT f)
theorem DW.dt (h : DW X e ca) : DT X e ca := h.pt
theorem dt_not (h : DT X a ca) : DT X (.UnaryOp .Not a pos) (pNot ca) := ptImp (pt_not h) fun σ H Q ⟨F, ρ, fp, hF, rr, b, eb, k⟩ => by
  unfold pNot at eb
  simp only [Option.map_eq_some_iff] at eb
  obtain ⟨c, e1, rfl⟩ := eb
  exact ⟨F, ρ, fp, hF, rr, c, e1, fun F' H' x => k F' H' x⟩
theorem dw_and1 (h : DT X a ca) : DW X (.BoolOp .And [a] pos) ca := pw_and1 h
theorem dw_or1 (h : DT X a ca) : DW X (.BoolOp .Or [a] pos) ca := pw_or1 h
theorem dw_and (h : DT X a ca) (h2 : DW X (.BoolOp .And (b :: rest) pos) cb) : DW X (.BoolOp .And (a :: b :: rest) pos) (pAnd ca cb) := pwImp (pw_and h h2) fun σ H Q ⟨F, ρ, fp, hF, rr, c, ec, k⟩ => by
  unfold pAnd at ec
  simp only [Option.bind_eq_some_iff] at ec
  obtain ⟨x, e1, e2⟩ := ec
  refine ⟨F, ρ, fp, hF, rr, x, e1, fun F1 H1 x1 => ?_⟩
  cases x with
  | true => exact iteT ⟨F1, ρ, fp, x1.FH, rr.ext x1, c, by simpa using e2, fun F2 H2 x2 => k F2 H2 (x1.trans x2)⟩
  | false => simp at e2; subst e2; exact iteF (k F1 H1 x1)
theorem dw_or (h : DT X a ca) (h2 : DW X (.BoolOp .Or (b :: rest) pos) cb) : DW X (.BoolOp .Or (a :: b :: rest) pos) (pOr ca cb) := pwImp (pw_or h h2) fun σ H Q ⟨F, ρ, fp, hF, rr, c, ec, k⟩ => by
  unfold pOr at ec
  simp only [Option.bind_eq_some_iff] at ec
  obtain ⟨x, e1, e2⟩ := ec
  refine ⟨F, ρ, fp, hF, rr, x, e1, fun F1 H1 x1 => ?_⟩
  cases x with
  | true => simp at e2; subst e2; exact iteT (k F1 H1 x1)
  | false => exact iteF ⟨F1, ρ, fp, x1.FH, rr.ext x1, c, by simpa using e2, fun F2 H2 x2 => k F2 H2 (x1.trans x2)⟩
/-- a chain a op b op' c -/
def pChain (g g' : Val → Val → Option Val) (fa fb fc : P Val) : P Val := fun ρ => (fa ρ).bind fun x => (fb ρ).bind fun y => (g x y).bind fun z => match z with
  | .bl true => (fc ρ).bind fun w => g' y w
  | .bl false => some (.bl false)
  | _ => none
theorem tChain_of {r r' : R2} {g g' : Val → Val → Option Val} {fc : P Val} (hv : VOp2 r g) (hv' : VOp2 r' g') {σ : St} {H : Hp} {Q : VK} (h : tF (pChain g g' fa fb fc) σ H Q) : tChain r r' (tP fa) (tP fb) (tP fc) σ H Q := by
  obtain ⟨F, ρ, fp, hF, rr, w, ew, k⟩ := h
  unfold pChain at ew
  simp only [Option.bind_eq_some_iff] at ew
  obtain ⟨x, e1, y, e2, z, e3, e4⟩ := ew
  refine ⟨F, ρ, fp, hF, rr, x, e1, fun u F1 H1 x1 p1 => ?_⟩
  refine ⟨F1, ρ, fp, x1.FH, rr.ext x1, y, e2, fun v F2 H2 x2 p2 => ?_⟩
  refine hv F2 H2 u v x y z _ x2.FH (p1.ext x2) p2 e3 fun zz F3 H3 x3 n => ?_
  have x13 := (x1.trans x2).trans x3
  cases z with
  | bl c =>
    obtain ⟨g0, rz, _⟩ := n
    cases rz
    refine ⟨c, rfl, ?_⟩
    cases c with
    | true =>
      simp only [Option.bind_eq_some_iff] at e4
      obtain ⟨wc, e5, e6⟩ := e4
      refine iteT ⟨F3, ρ, fp, x3.FH, rr.ext x13, wc, e5, fun t F4 H4 x4 p4 => ?_⟩
      exact hv' F4 H4 v t y wc w Q x4.FH (p2.ext (x3.trans x4)) p4 e6 fun q F5 H5 x5 n5 => k q F5 H5 ((x13.trans x4).trans x5) (n5.ext (x13.trans x4) x5)
    | false =>
      simp at e4; subst e4
      exact iteF (k _ F3 H3 x13 (.of (.bl _)))
  | _ => simp at e4
theorem df_chain {op op' : CmpOp} {r r' : R2} {g g' : Val → Val → Option Val} {c : Expr} {fc : P Val} (ho : OpR X (compareOp op) r) (hv : VOp2 r g) (ho' : OpR X (compareOp op') r') (hv' : VOp2 r' g') (ha : DP X a fa) (hb : DP X b fb) (hc : DP X c fc) (hm : lastMarks [op, op'] [b, c] = false := by rfl) :
    DF X (.Compare a [op, op'] [b, c] pos) (pChain g g' fa fb fc) := peImp (pe_chain ho ho' ha hb hc hm) fun _ _ _ h => tChain_of hv hv' h
theorem dt_chain {op op' : CmpOp} {r r' : R2} {g g' : Val → Val → Option Val} {c : Expr} {fc : P Val} (ho : OpR X (compareOp op) r) (hv : VOp2 r g) (ho' : OpR X (compareOp op') r') (hv' : VOp2 r' g') (ha : DP X a fa) (hb : DP X b fb) (hc : DP X c fc) (hm : lastMarks [op, op'] [b, c] = false := by rfl) :
    DT X (.Compare a [op, op'] [b, c] pos) (pTest (pChain g g' fa fb fc)) := ptImp (pt_chain ho ho' ha hb hc hm) fun _ _ _ q => tB_of (t := tChain r r' (tP fa) (tP fb) (tP fc)) (fun σ H Q z => tChain_of hv hv' (by
    obtain ⟨F, ρ, fp, hF, rr, w, ew, k⟩ := z
    exact ⟨F, ρ, fp, hF, rr, w, ew, fun u F' H' x n => k u F' H' x n.pk⟩)) q
/-- tests as values -/
def pVal (c : P Bool) : P Val := fun ρ => (c ρ).map .bl
theorem df_notV (h : DP X a fa) : DF X (.UnaryOp .Not a pos) (pVal (pNot (pTest fa))) := peImp (pe_not h) fun σ H Q ⟨F, ρ, fp, hF, rr, w, ew, k⟩ => by
  unfold pVal pNot at ew
  simp only [Option.map_eq_some_iff] at ew
  obtain ⟨c, ⟨d, e1, rfl⟩, rfl⟩ := ew
  refine ⟨F, ρ, fp, hF, rr, .bl d, pTest_some e1, fun u F' H' x p => ?_⟩
  obtain ⟨g, r⟩ := p
  cases r
  exact ⟨d, rfl, k _ F' H' x (.of (.bl _))⟩
theorem df_one {op : PySem.BoolOp} (h : DP X a fa) : DP X (.BoolOp op [a] pos) fa := pe_one h
def pAndV (fa fb : P Val) : P Val := fun ρ => (pTest fa ρ).bind fun c => if c = true then fb ρ else some (.bl false)
def pOrV (fa fb : P Val) : P Val := fun ρ => (pTest fa ρ).bind fun c => if c = true then some (.bl true) else fb ρ
theorem dp_andV (h : DP X a fa) (h2 : DP X (.BoolOp .And (b :: rest) pos) fb) : DP X (.BoolOp .And (a :: b :: rest) pos) (pAndV fa fb) := peImp (pe_and h h2) fun σ H Q ⟨F, ρ, fp, hF, rr, w, ew, k⟩ => by
  unfold pAndV at ew
  simp only [Option.bind_eq_some_iff] at ew
  obtain ⟨c, e1, e2⟩ := ew
  refine ⟨F, ρ, fp, hF, rr, .bl c, pTest_some e1, fun u F1 H1 x1 p => ?_⟩
  obtain ⟨g, r⟩ := p
  cases r
  refine ⟨c, rfl, ?_⟩
  cases c with
  | true => exact iteT ⟨F1, ρ, fp, x1.FH, rr.ext x1, w, by simpa using e2, fun u F2 H2 x2 p2 => k u F2 H2 (x1.trans x2) p2⟩
  | false => simp at e2; subst e2; exact iteF (k _ F1 H1 x1 ⟨_, .bl _⟩)
theorem dp_orV (h : DP X a fa) (h2 : DP X (.BoolOp .Or (b :: rest) pos) fb) : DP X (.BoolOp .Or (a :: b :: rest) pos) (pOrV fa fb) := peImp (pe_or h h2) fun σ H Q ⟨F, ρ, fp, hF, rr, w, ew, k⟩ => by
  unfold pOrV at ew
  simp only [Option.bind_eq_some_iff] at ew
  obtain ⟨c, e1, e2⟩ := ew
  refine ⟨F, ρ, fp, hF, rr, .bl c, pTest_some e1, fun u F1 H1 x1 p => ?_⟩
  obtain ⟨g, r⟩ := p
  cases r
  refine ⟨c, rfl, ?_⟩
  cases c with
  | false => exact iteF ⟨F1, ρ, fp, x1.FH, rr.ext x1, w, by simpa using e2, fun u F2 H2 x2 p2 => k u F2 H2 (x1.trans x2) p2⟩
  | true => simp at e2; subst e2; exact iteT (k _ F1 H1 x1 ⟨_, .bl _⟩)
/-- a if t else b -/
def pIte (c : P Bool) (fa fb : P Val) : P Val := fun ρ => (c ρ).bind fun x => if x = true then fa ρ else fb ρ
theorem dp_ite {c : Expr} {fc : P Bool} (hc : DT X c fc) (ha : DP X a fa) (hb : DP X b fb) : DP X (.IfExp c a b pos) (pIte fc fa fb) := peImp (pe_ifExp hc ha hb) fun σ H Q ⟨F, ρ, fp, hF, rr, w, ew, k⟩ => by
  unfold pIte at ew
  simp only [Option.bind_eq_some_iff] at ew
  obtain ⟨x, e1, e2⟩ := ew
  refine ⟨F, ρ, fp, hF, rr, x, e1, fun F1 H1 x1 => ?_⟩
  cases x with
  | true => exact iteT ⟨F1, ρ, fp, x1.FH, rr.ext x1, w, by simpa using e2, fun u F2 H2 x2 p => k u F2 H2 (x1.trans x2) p⟩
  | false => exact iteF ⟨F1, ρ, fp, x1.FH, rr.ext x1, w, by simpa using e2, fun u F2 H2 x2 p => k u F2 H2 (x1.trans x2) p⟩

/-! ### displays -/
theorem Ext.laid {F H : Hp} {p : Addr} {o : HO} (hF : Le F H) (np : H p = Option.none) : Ext F H F (L2.upd H p o) ∧ Ext F H (L2.upd F p o) (L2.upd H p o) := by
  have nF : F p = Option.none := by
    cases q : F p with
    | none => rfl
    | some z => rw [hF p z q] at np; cases np
  have leH : Le H (L2.upd H p o) := fun a z e => by rw [upd_ne (ne_of_none e np)]; exact e
  refine ⟨⟨leH, .refl _, hF.trans leH, fun _ => .inl⟩, ⟨leH, fun a z e => by rw [upd_ne (ne_of_none e nF)]; exact e, fun a z e => ?_, fun a ha => ?_⟩⟩
  · by_cases h : a = p
    · subst h; rw [upd_same] at e ⊢; exact e
    · rw [upd_ne h] at e ⊢; exact hF a z e
  · by_cases h : a = p
    · subst h; exact .inr (.inl np)
    · rw [upd_ne h] at ha; exact .inl ha
/-- a new tuple of things that nobody owns; a new list -/
def gTupN (ws : List Val) : Option Val := if noOwns ws && decide (ws.length ≤ sizeLine) then some (.tup ws) else none
def gLstN (ws : List Val) : Option Val := if noOwns ws && decide (ws.length ≤ sizeLine) then some (.lst true ws) else none
theorem df_tup {x1} (h : DPs X es fs) : DF X (.Tuple es x1 pos) (pOpS gTupN fs) := peImp (pe_tup h) fun σ H Q ⟨F, ρ, fp, hF, rr, w, ew, k⟩ => by
  unfold pOpS at ew
  simp only [Option.bind_eq_some_iff] at ew
  obtain ⟨ws, e1, e2⟩ := ew
  refine ⟨F, ρ, fp, hF, rr, ws, e1, fun us F1 H1 x1 p1 => ?_⟩
  obtain ⟨g, r⟩ := p1
  unfold gTupN at e2
  split at e2
  · rename_i hc
    simp only [Bool.and_eq_true, decide_eq_true_eq] at hc
    cases e2
    have := r.nofp hc.1
    subst this
    refine ⟨by rw [r.length]; exact hc.2, fun p np => ?_⟩
    have x2 := (Ext.laid (o := .tup us) x1.FH np).2
    exact k _ _ _ (x1.trans x2) (.of (.tup upd_same (r.ext x2)))
  · cases e2
theorem df_lst (h : DPs X es fs) : DF X (.List es pos) (pOpS gLstN fs) := peImp (pe_lst h) fun σ H Q ⟨F, ρ, fp, hF, rr, w, ew, k⟩ => by
  unfold pOpS at ew
  simp only [Option.bind_eq_some_iff] at ew
  obtain ⟨ws, e1, e2⟩ := ew
  refine ⟨F, ρ, fp, hF, rr, ws, e1, fun us F1 H1 x1 p1 => ?_⟩
  obtain ⟨g, r⟩ := p1
  unfold gLstN at e2
  split at e2
  · rename_i hc
    simp only [Bool.and_eq_true, decide_eq_true_eq] at hc
    cases e2
    have := r.nofp hc.1
    subst this
    refine ⟨by rw [r.length]; exact hc.2, fun p np => ?_⟩
    have x2 := (Ext.laid (o := .lst us) x1.FH np).1
    refine k _ _ _ (x1.trans x2) ⟨[p], .low upd_same (r.ext x2), fun a => ?_, fun a ha => ?_⟩
    · rw [List.count_cons, List.count_nil]; split <;> omega
    · have : a = p := by simpa using ha
      subst this
      refine ⟨x1.none np, ?_⟩
      cases q : F1 a with
      | none => rfl
      | some z => rw [x1.FH a z q] at np; cases np
  · cases e2
def pDNewT : P Val := fun _ => some (.dT true [] [])
def pDNewK : P Val := fun _ => some (.dK true [] [])
theorem df_dnewT : DF X (.Dict [] [] pos) pDNewT := peImp pe_dnewT fun σ H Q ⟨F, ρ, fp, hF, rr, w, ew, k⟩ => by
  cases ew
  intro p np
  have x2 := (Ext.laid (o := .dT []) hF np).1
  refine k _ _ _ x2 ⟨[p], .tow (ks := []) (xs := []) upd_same rfl .nil, fun a => ?_, fun a ha => ?_⟩
  · rw [List.count_cons, List.count_nil]; split <;> omega
  · have : a = p := by simpa using ha
    subst this
    refine ⟨np, ?_⟩
    cases q : F a with
    | none => rfl
    | some z => rw [hF a z q] at np; cases np
theorem df_dnewK : DF X (.Dict [] [] pos) pDNewK := peImp pe_dnewK fun σ H Q ⟨F, ρ, fp, hF, rr, w, ew, k⟩ => by
  cases ew
  intro p np
  have x2 := (Ext.laid (o := .dK []) hF np).1
  refine k _ _ _ x2 ⟨[p], .kow (ks := []) (xs := []) upd_same rfl .nil, fun a => ?_, fun a ha => ?_⟩
  · rw [List.count_cons, List.count_nil]; split <;> omega
  · have : a = p := by simpa using ha
    subst this
    refine ⟨np, ?_⟩
    cases q : F a with
    | none => rfl
    | some z => rw [hF a z q] at np; cases np
end
end L2.DL

namespace L2.DL
open L2 PyProof.Rows PySem.Spec PySem

/-! ### doing: the readings -/
abbrev MG := Str → Option Value
abbrev W0 : WX := fun _ _ _ _ => False
/-- what an exception carries -/
def XR (F H : Hp) (pl : Option (Str × Val)) (d : Option Addr) : Prop := match pl with
  | none => True
  | some (f, w) => ∃ dd v, d = some dd ∧ H dd = some (.xd [(f, v)]) ∧ Rep F H v w []
def Post {α : Type} (mg : MG) (W : WX) (B : Base) (σ : St) (τ : List (Option V)) (θ : Slots) (x : R α) (K : α → Slots → Prop) : Prop := match x with
  | .ok a ρ' => K a ρ'
  | .err c pl ρ' => ∀ C d F' H', mg c = some (.ref C) → SR B F' H' σ ρ' τ θ → XR F' H' pl d → W (.ref C) d σ H'
  | .bad => False
theorem Post.bind {α β : Type} {mg : MG} {W : WX} {B : Base} {σ : St} {τ : List (Option V)} {θ : Slots} {x : R α} {g : α → Slots → R β} {K : β → Slots → Prop} (h : Post mg W B σ τ θ (x.bind g) K) : Post mg W B σ τ θ x fun a ρ => Post mg W B σ τ θ (g a ρ) K := by
  cases x <;> exact h
theorem Post.imp {α : Type} {mg : MG} {W : WX} {B : Base} {σ : St} {τ : List (Option V)} {θ : Slots} {x : R α} {K K' : α → Slots → Prop} (h : Post mg W B σ τ θ x K) (k : ∀ a ρ, K a ρ → K' a ρ) : Post mg W B σ τ θ x K' := by
  cases x with
  | ok a ρ => exact k a ρ h
  | err c pl ρ => exact h
  | bad => exact h
/-- more roots beneath -/
theorem Post.deep {α : Type} {mg : MG} {W : WX} {B : Base} {σ : St} {τ : List (Option V)} {θ : Slots} {x : R α} {K : α → Slots → Prop} {y : Option V} {z : Option Val} (h : Post mg W B σ τ θ x K) : Post mg W B σ (y :: τ) (z :: θ) x K := by
  cases x with
  | ok a ρ => exact h
  | err c pl ρ => exact fun C d F' H' e s r => h C d F' H' e s.pop r
  | bad => exact h
theorem SR.popN {B : Base} {F H : Hp} {σ : St} {ρ : Slots} : ∀ {ts : List (Option V)} {vs : Slots} {τ : List (Option V)} {θ : Slots}, ts.length = vs.length → SR B F H σ ρ (ts ++ τ) (vs ++ θ) → SR B F H σ ρ τ θ
  | [], [], _, _, _, s => s
  | [], _ :: _, _, _, e, _ => by simp at e
  | _ :: _, [], _, _, e, _ => by simp at e
  | t :: ts, v :: vs, _, _, e, s => SR.popN (ts := ts) (vs := vs) (by simpa using e) (SR.pop s)
theorem Post.deepN {α : Type} {mg : MG} {W : WX} {B : Base} {σ : St} {τ : List (Option V)} {θ : Slots} {x : R α} {K : α → Slots → Prop} {ts : List (Option V)} {vs : Slots} (e : ts.length = vs.length) (h : Post mg W B σ τ θ x K) : Post mg W B σ (ts ++ τ) (vs ++ θ) x K := by
  cases x with
  | ok a ρ => exact h
  | err c pl ρ => exact fun C d F' H' e1 s r => h C d F' H' e1 (s.popN e) r
  | bad => exact h
def tV (mg : MG) (k : Nat) (W : WX) (f : M Val) : TE := fun σ H Q => ∃ B F ρ τ θ, SR B F H σ ρ τ θ ∧ B.S0.length = k ∧
  Post mg W B σ τ θ (f ρ) fun w ρ' => ∀ u F' H', SR B F' H' σ ρ' (some u :: τ) (some w :: θ) → Q u H'
abbrev DV (X : Cx) (k : Nat) (W : WX) (e : Expr) (f : M Val) : Prop := PE X e (tV X.mg k W f)
def tVs (mg : MG) (k : Nat) (W : WX) (f : M (List Val)) : TA := fun σ H Q => ∃ B F ρ τ θ, SR B F H σ ρ τ θ ∧ B.S0.length = k ∧
  Post mg W B σ τ θ (f ρ) fun ws ρ' => ∀ us F' H', us.length = ws.length → SR B F' H' σ ρ' (us.map some ++ τ) (ws.map some ++ θ) → Q us H'
abbrev DVs (X : Cx) (k : Nat) (W : WX) (es : List Expr) (f : M (List Val)) : Prop := PA X es (tVs X.mg k W f)
def tVT (mg : MG) (k : Nat) (W : WX) (f : M Bool) : TT := fun σ H Q => ∃ B F ρ τ θ, SR B F H σ ρ τ θ ∧ B.S0.length = k ∧
  Post mg W B σ τ θ (f ρ) fun b ρ' => ∀ F' H', SR B F' H' σ ρ' τ θ → Q b H'
abbrev DVT (X : Cx) (k : Nat) (W : WX) (e : Expr) (f : M Bool) : Prop := PT X e (tVT X.mg k W f)

/-! ### moving the roots about -/
section
variable {B : Base} {F H F' H' : Hp} {σ : St} {ρ : Slots} {τ : List (Option V)} {θ : Slots}
theorem RepL.swapHead {x : Option V} {y : Option Val} : ∀ {ts : List (Option V)} {vs : Slots} {τ : List (Option V)} {θ : Slots} {f : List Addr}, ts.length = vs.length → RepL F H (x :: (ts ++ τ)) (y :: (vs ++ θ)) f → ∃ f', RepL F H (ts ++ x :: τ) (vs ++ y :: θ) f' ∧ ∀ a, f'.count a = f.count a := by
  intro ts vs τ θ f e h
  cases h with
  | dead h =>
    obtain ⟨f1, f2, h1, h2, rfl⟩ := RepL.split e h
    exact ⟨_, h1.append (.dead h2), fun a => rfl⟩
  | @live _ _ _ _ g _ h0 h =>
    obtain ⟨f1, f2, h1, h2, rfl⟩ := RepL.split e h
    exact ⟨_, h1.append (.live h0 h2), fun a => by simp only [List.count_append]; omega⟩
theorem RepL.swapBack {x : Option V} {y : Option Val} : ∀ {ts : List (Option V)} {vs : Slots} {τ : List (Option V)} {θ : Slots} {f : List Addr}, ts.length = vs.length → RepL F H (ts ++ x :: τ) (vs ++ y :: θ) f → ∃ f', RepL F H (x :: (ts ++ τ)) (y :: (vs ++ θ)) f' ∧ ∀ a, f'.count a = f.count a := by
  intro ts vs τ θ f e h
  obtain ⟨f1, f2, h1, h2, rfl⟩ := RepL.split e h
  cases h2 with
  | dead h3 => exact ⟨_, .dead (h1.append h3), fun a => rfl⟩
  | live h0 h3 => exact ⟨_, .live h0 (h1.append h3), fun a => by simp only [List.count_append]; omega⟩
theorem SR.retemp {τ' : List (Option V)} {θ' : Slots} (s : SR B F H σ ρ τ θ) (k : ∀ f, RepL F H τ θ f → ∃ f', RepL F H τ' θ' f' ∧ ∀ a, f'.count a ≤ f.count a) : SR B F H σ ρ τ' θ' := by
  obtain ⟨f1, f2, s1, t, c, o, FH, F0, keep, dom, new, pin⟩ := s
  obtain ⟨f', r, c'⟩ := k f2 t
  exact ⟨f1, f', s1, r, fun a => by have := c a; have := c' a; omega, fun a ha => o a (by have := c' a; omega), FH, F0, keep, dom, new, pin⟩
theorem SR.rot {x : Option V} {y : Option Val} {ts : List (Option V)} {vs : Slots} (e : ts.length = vs.length) (s : SR B F H σ ρ (x :: (ts ++ τ)) (y :: (vs ++ θ))) : SR B F H σ ρ (ts ++ x :: τ) (vs ++ y :: θ) :=
  s.retemp fun f h => let ⟨f', r, c⟩ := RepL.swapHead e h; ⟨f', r, fun a => by rw [c a]; omega⟩
theorem SR.torot {x : Option V} {y : Option Val} {ts : List (Option V)} {vs : Slots} (e : ts.length = vs.length) (s : SR B F H σ ρ (ts ++ x :: τ) (vs ++ y :: θ)) : SR B F H σ ρ (x :: (ts ++ τ)) (y :: (vs ++ θ)) :=
  s.retemp fun f h => let ⟨f', r, c⟩ := RepL.swapBack e h; ⟨f', r, fun a => by rw [c a]; omega⟩
/-- the roots beneath the top are dropped -/
theorem SR.under {x : Option V} {y : Option Val} {ts : List (Option V)} {vs : Slots} (e : ts.length = vs.length) (s : SR B F H σ ρ (x :: (ts ++ τ)) (y :: (vs ++ θ))) : SR B F H σ ρ (x :: τ) (y :: θ) := (s.rot e).popN e
theorem SR.under1 {x x1 : Option V} {y y1 : Option Val} (s : SR B F H σ ρ (x :: x1 :: τ) (y :: y1 :: θ)) : SR B F H σ ρ (x :: τ) (y :: θ) := s.under (ts := [x1]) (vs := [y1]) rfl
theorem SR.under2 {x x1 x2 : Option V} {y y1 y2 : Option Val} (s : SR B F H σ ρ (x :: x1 :: x2 :: τ) (y :: y1 :: y2 :: θ)) : SR B F H σ ρ (x :: τ) (y :: θ) := s.under (ts := [x1, x2]) (vs := [y1, y2]) rfl
theorem SR.tops {us : List V} {ws : List Val} (e : us.length = ws.length) (s : SR B F H σ ρ (us.map some ++ τ) (ws.map some ++ θ)) : PkS F H us ws := by
  obtain ⟨f1, f2, s⟩ := s
  obtain ⟨g1, g2, h1, h2, _⟩ := RepL.split (by simpa using e) s.t
  exact ⟨g1, h1.reps⟩
theorem SR.second {u v : V} {w z : Val} (s : SR B F H σ ρ (some v :: some u :: τ) (some z :: some w :: θ)) : Pk F H u w := s.pop.top
end

/-! ### expressions -/
section
variable {X : Cx} {k : Nat} {W : WX} {e a b : Expr} {es : List Expr} {f fa fb : M Val} {fs : M (List Val)} {pos : Pos}
def mF (f : P Val) : M Val := fun ρ => match f ρ with
  | some w => .ok w ρ
  | none => .bad
def mP (f : P Val) : M Val := fun ρ => match f ρ with
  | some w => if noOwn w = true then .ok w ρ else .bad
  | none => .bad
/-- new things as they are -/
theorem dv_f {f : P Val} (h : DF X e f) : DV X k W e (mF f) := peImp h fun σ H Q ⟨B, F, ρ, τ, θ, s, hk, p⟩ => by
  obtain ⟨f1, f2, s'⟩ := id s
  unfold mF at p
  cases q : f ρ with
  | none => rw [q] at p; exact p.elim
  | some w =>
    rw [q] at p
    exact ⟨F, ρ, f1, s.FH, s'.s, w, q, fun u F' H' x n => p u F' H' (s.push x n)⟩
/-- what may be copied -/
theorem dv_p {f : P Val} (h : DP X e f) : DV X k W e (mP f) := peImp h fun σ H Q ⟨B, F, ρ, τ, θ, s, hk, p⟩ => by
  obtain ⟨f1, f2, s'⟩ := id s
  unfold mP at p
  cases q : f ρ with
  | none => rw [q] at p; exact p.elim
  | some w =>
    rw [q] at p
    by_cases n : noOwn w = true
    · simp only [n, if_true] at p
      exact ⟨F, ρ, f1, s.FH, s'.s, w, q, fun u F' H' x pk => p u F' H' (s.push x (.of_pk n pk))⟩
    · simp only [n] at p
      exact p.elim
def pNo (f : P Val) : P Val := fun ρ => (f ρ).bind fun w => if noOwn w = true then some w else none
theorem df_no {f : P Val} (h : DP X e f) : DF X e (pNo f) := peImp h fun σ H Q ⟨F, ρ, fp, hF, rr, w, ew, k⟩ => by
  unfold pNo at ew
  simp only [Option.bind_eq_some_iff] at ew
  obtain ⟨x, e1, e2⟩ := ew
  split at e2
  · rename_i n
    cases e2
    exact ⟨F, ρ, fp, hF, rr, _, e1, fun u F' H' x pk => k u F' H' x (.of_pk n pk)⟩
  · cases e2
def mMove (i : Nat) : M Val := fun ρ => match (ρ[i]?).join with
  | some w => .ok w (ρ.set i none)
  | none => .bad
theorem join_some {ρ : Slots} {i : Nat} {w : Val} (h : (ρ[i]?).join = some w) : ρ[i]? = some (some w) := by
  cases q : ρ[i]? with
  | none => rw [q] at h; cases h
  | some o => rw [q] at h; cases h; rfl
/-- the name gives its thing away -/
theorem dv_move (i : Nat) {x : Str} (hN : X.N[i]? = some x := by rfl) (hv : Vis X.env.scope x := by first | exact Or.inl rfl | exact Or.inr (Or.inl rfl) | exact Or.inr (Or.inr rfl)) (hd : (x == ("__debug__" : Str)) = false := by decide)
    (hcd : (x == ("__classdict__" : Str)) = false := by decide) : DV X k W (.Name x pos) (mMove i) := peImp (pe_var hN hv hd hcd) fun σ H Q ⟨B, F, ρ, τ, θ, s, hk, p⟩ => by
  unfold mMove at p
  cases q : (ρ[i]?).join with
  | none => rw [q] at p; exact p.elim
  | some w =>
    rw [q] at p
    obtain ⟨v, ev, s'⟩ := s.move (join_some q)
    exact ⟨v, ev, p v F H s'⟩
def mFrz (i : Nat) : M Val := fun ρ => match (ρ[i]?).join with
  | some w => if noObj w = true then .ok (frz w) (ρ.set i (some (frz w))) else .bad
  | none => .bad
mutual
theorem noOwn_frz : ∀ {w : Val}, noObj w = true → noOwn (frz w) = true
  | .non, _ => rfl
  | .bl _, _ => rfl
  | .int _, _ => rfl
  | .str _, _ => rfl
  | .tup ws, h => by simp only [frz, noOwn]; exact noOwns_frz (by simpa [noObj] using h)
  | .tpz ws, h => by simp only [frz, noOwn]; exact noOwns_frz (by simpa [noObj] using h)
  | .lst o ws, h => by simp only [frz, noOwn]; simpa using noOwns_frz (by simpa [noObj] using h)
  | .dT o ks ws, h => by simp only [frz, noOwn]; simpa using noOwns_frz (by simpa [noObj] using h)
  | .dK o ks ws, h => by simp only [frz, noOwn]; simpa using noOwns_frz (by simpa [noObj] using h)
  | .obj _ _ _, h => by simp [noObj] at h
  | .scr _ _, _ => rfl
theorem noOwns_frz : ∀ {ws : List Val}, noObjs ws = true → noOwns (frzs ws) = true
  | [], _ => rfl
  | w :: ws, h => by
    simp only [noObjs, Bool.and_eq_true] at h
    simp only [frzs, noOwns, Bool.and_eq_true]
    exact ⟨noOwn_frz h.1, noOwns_frz h.2⟩
end
/-- the name's thing is shared from now on -/
theorem dv_frz (i : Nat) {x : Str} (hN : X.N[i]? = some x := by rfl) (hv : Vis X.env.scope x := by first | exact Or.inl rfl | exact Or.inr (Or.inl rfl) | exact Or.inr (Or.inr rfl)) (hd : (x == ("__debug__" : Str)) = false := by decide)
    (hcd : (x == ("__classdict__" : Str)) = false := by decide) : DV X k W (.Name x pos) (mFrz i) := peImp (pe_var hN hv hd hcd) fun σ H Q ⟨B, F, ρ, τ, θ, s, hk, p⟩ => by
  unfold mFrz at p
  cases q : (ρ[i]?).join with
  | none => rw [q] at p; exact p.elim
  | some w =>
    rw [q] at p
    by_cases n : noObj w = true
    · simp only [n, if_true] at p
      obtain ⟨F', hF, s'⟩ := s.freeze (join_some q) n
      have hi : i < ρ.length := (List.getElem?_eq_some_iff.mp (join_some q)).1
      obtain ⟨v, ev, s2⟩ := s'.copy (i := i) (w := frz w) (by rw [List.getElem?_set_self hi]) (noOwn_frz n)
      exact ⟨v, ev, p v F' H s2⟩
    · simp only [n] at p
      exact p.elim
def mOp2 (g : Val → Val → Option Val) (fa fb : M Val) : M Val := fun ρ => (fa ρ).bind fun x ρ1 => (fb ρ1).bind fun y ρ2 => match g x y with
  | some w => .ok w ρ2
  | none => .bad
theorem tOpV_of {mg : MG} {r : R2} {g : Val → Val → Option Val} (hv : VOp2 r g) {σ : St} {H : Hp} {Q : VK} (h : tV mg k W (mOp2 g fa fb) σ H Q) : tOp r (tV mg k W fa) (tV mg k W fb) σ H Q := by
  obtain ⟨B, F, ρ, τ, θ, s, hk, p⟩ := h
  refine ⟨B, F, ρ, τ, θ, s, hk, (Post.bind p).imp fun x ρ1 p1 u F1 H1 s1 => ?_⟩
  refine ⟨B, F1, ρ1, _, _, s1, hk, (Post.bind p1).deep.imp fun y ρ2 p2 v F2 H2 s2 => ?_⟩
  cases q : g x y with
  | none => rw [q] at p2; exact p2.elim
  | some w =>
    rw [q] at p2
    exact hv F2 H2 u v x y w Q s2.FH s2.second s2.top q fun z F3 H3 x3 n => p2 z F3 H3 (s2.push x3 n).under2
theorem dv_op2 {op : Operator} {r : R2} {g : Val → Val → Option Val} (ho : OpR X (binaryOp op) r) (hv : VOp2 r g) (ha : DV X k W a fa) (hb : DV X k W b fb) : DV X k W (.BinOp a op b pos) (mOp2 g fa fb) := peImp (pe_op ho ha hb) fun _ _ _ h => tOpV_of hv h
theorem dv_cmp {op : CmpOp} {r : R2} {g : Val → Val → Option Val} (ho : OpR X (compareOp op) r) (hv : VOp2 r g) (ha : DV X k W a fa) (hb : DV X k W b fb) (hm : behindInMarks op b = false) : DV X k W (.Compare a [op] [b] pos) (mOp2 g fa fb) := peImp (pe_cmpR ho ha hb hm) fun _ _ _ h => tOpV_of hv h
def mOp1 (g : Val → Option Val) (fa : M Val) : M Val := fun ρ => (fa ρ).bind fun x ρ1 => match g x with
  | some w => .ok w ρ1
  | none => .bad
theorem dv_op1 {op : UnaryOp} {r : V → Hp → VK → Prop} {g : Val → Option Val} (ho : UnR X (unaryOp op) r) (hv : VOp1 r g) (ha : DV X k W a fa) : DV X k W (.UnaryOp op a pos) (mOp1 g fa) := peImp (pe_un ho ha) fun σ H Q h => by
  obtain ⟨B, F, ρ, τ, θ, s, hk, p⟩ := h
  refine ⟨B, F, ρ, τ, θ, s, hk, (Post.bind p).imp fun x ρ1 p1 u F1 H1 s1 => ?_⟩
  cases q : g x with
  | none => rw [q] at p1; exact p1.elim
  | some w =>
    rw [q] at p1
    exact hv F1 H1 u x w Q s1.FH s1.top q fun z F3 H3 x3 n => p1 z F3 H3 (s1.push x3 n).under1
/-- an item that may be copied -/
def mIx (g : Val → Val → Option Val) (fa fb : M Val) : M Val := fun ρ => (fa ρ).bind fun x ρ1 => (fb ρ1).bind fun y ρ2 => match g x y with
  | some w => if noOwn w = true then .ok w ρ2 else .bad
  | none => .bad
theorem dv_ix {r : R2} {g : Val → Val → Option Val} (ho : IxR X r) (hv : VIx r g) (ha : DV X k W a fa) (hb : DV X k W b fb) (hs : PlainIx b) : DV X k W (.Subscript a b pos) (mIx g fa fb) := peImp (pe_ix ho ha hb hs) fun σ H Q h => by
  obtain ⟨B, F, ρ, τ, θ, s, hk, p⟩ := h
  refine ⟨B, F, ρ, τ, θ, s, hk, (Post.bind p).imp fun x ρ1 p1 u F1 H1 s1 => ?_⟩
  refine ⟨B, F1, ρ1, _, _, s1, hk, (Post.bind p1).deep.imp fun y ρ2 p2 v F2 H2 s2 => ?_⟩
  cases q : g x y with
  | none => rw [q] at p2; exact p2.elim
  | some w =>
    rw [q] at p2
    by_cases n : noOwn w = true
    · simp only [n, if_true] at p2
      exact hv F2 H2 u v x y w Q s2.FH s2.second s2.top q fun z pk => p2 z F2 H2 (s2.push (.refl s2.FH) (.of_pk n pk)).under2
    · simp only [n] at p2; exact p2.elim
/-- a name's item, the name read when the place is known -/
def mIxL (g : Val → Val → Option Val) (i : Nat) (fb : M Val) : M Val := fun ρ => match (ρ[i]?).join with
  | none => .bad
  | some _ => (fb ρ).bind fun y ρ2 => match (ρ2[i]?).join with
    | some x => (match g x y with
      | some w => if noOwn w = true then .ok w ρ2 else .bad
      | none => .bad)
    | none => .bad
theorem dv_ixL (i : Nat) {x : Str} {p0 : Pos} {r : R2} {g : Val → Val → Option Val} (ho : IxR X r) (hv : VIx r g) (hb : DV X k W b fb) (hs : PlainIx b)
    (hN : X.N[i]? = some x := by rfl) (hvi : Vis X.env.scope x := by first | exact Or.inl rfl | exact Or.inr (Or.inl rfl) | exact Or.inr (Or.inr rfl)) (hd : (x == ("__debug__" : Str)) = false := by decide)
    (hcd : (x == ("__classdict__" : Str)) = false := by decide) : DV X k W (.Subscript (.Name x p0) b pos) (mIxL g i fb) := peImp (pe_ix ho (pe_var hN hvi hd hcd) hb hs) fun σ H Q h => by
  obtain ⟨B, F, ρ, τ, θ, s, hk, p⟩ := h
  unfold mIxL at p
  cases q0 : (ρ[i]?).join with
  | none => rw [q0] at p; exact p.elim
  | some w0 =>
    rw [q0] at p
    obtain ⟨v, ev, _⟩ := s.get (join_some q0)
    refine ⟨v, ev, B, F, ρ, τ, θ, s, hk, (Post.bind p).imp fun y ρ2 p2 u F2 H2 s2 => ?_⟩
    cases q1 : (ρ2[i]?).join with
    | none => rw [q1] at p2; exact p2.elim
    | some x =>
      rw [q1] at p2
      dsimp only at p2
      obtain ⟨v', ev', pv'⟩ := s2.get (join_some q1)
      have evv : v' = v := by rw [ev] at ev'; cases ev'; rfl
      subst evv
      cases q : g x y with
      | none => rw [q] at p2; exact p2.elim
      | some w =>
        rw [q] at p2
        by_cases n : noOwn w = true
        · simp only [n, if_true] at p2
          exact hv F2 H2 _ u x y w Q s2.FH pv' s2.top q fun z pk => p2 z F2 H2 (s2.push (.refl s2.FH) (.of_pk n pk)).under1
        · simp only [n] at p2; exact p2.elim
end
end L2.DL

namespace L2.DL
open L2 PyProof.Rows PySem.Spec PySem

section
variable {X : Cx} {k : Nat} {W : WX} {e a b : Expr} {es : List Expr} {f fa fb : M Val} {fs : M (List Val)} {pos : Pos}
def msNil : M (List Val) := fun ρ => .ok [] ρ
def msCons (f : M Val) (fs : M (List Val)) : M (List Val) := fun ρ => (f ρ).bind fun w ρ1 => (fs ρ1).bind fun ws ρ2 => .ok (w :: ws) ρ2
theorem dvs_nil : DVs X k W [] msNil := paImp pa_nil fun σ H Q ⟨B, F, ρ, τ, θ, s, hk, p⟩ => p [] F H rfl s
theorem dvs_cons (h1 : DV X k W e f) (h2 : DVs X k W es fs) (hs : starEach (e :: es) X.env = (false, eval e X.env) :: starEach es X.env := by rfl) : DVs X k W (e :: es) (msCons f fs) := paImp (pa_cons h1 h2 hs) fun σ H Q ⟨B, F, ρ, τ, θ, s, hk, p⟩ => by
  refine ⟨B, F, ρ, τ, θ, s, hk, (Post.bind p).imp fun w ρ1 p1 u F1 H1 s1 => ?_⟩
  refine ⟨B, F1, ρ1, _, _, s1, hk, (Post.bind p1).deep.imp fun ws ρ2 p2 us F2 H2 el s2 => ?_⟩
  exact p2 (u :: us) F2 H2 (by simp [el]) (s2.torot (by simpa using el))
def mOpS (g : List Val → Option Val) (fs : M (List Val)) : M Val := fun ρ => (fs ρ).bind fun ws ρ1 => match g ws with
  | some w => .ok w ρ1
  | none => .bad
theorem tCBV_of {mg : MG} {r : List V → Hp → VK → Prop} {g : List Val → Option Val} (hv : VOpS r g) {σ : St} {H : Hp} {Q : VK} (h : tV mg k W (mOpS g fs) σ H Q) : tCB r (tVs mg k W fs) σ H Q := by
  obtain ⟨B, F, ρ, τ, θ, s, hk, p⟩ := h
  refine ⟨B, F, ρ, τ, θ, s, hk, (Post.bind p).imp fun ws ρ1 p1 us F1 H1 el s1 => ?_⟩
  cases q : g ws with
  | none => rw [q] at p1; exact p1.elim
  | some w =>
    rw [q] at p1
    exact hv F1 H1 us ws w Q s1.FH (s1.tops el) q fun z F2 H2 x n => p1 z F2 H2 ((s1.push x n).under (by simpa using el))
theorem dv_callB {x : Str} {p : Pos} {id : String} {r : List V → Hp → VK → Prop} {g : List Val → Option Val} (hc : CallR X (.builtin id) r) (hv : VOpS r g) (hg : Gl X x) (hm : X.mg x = none) (hb : bootBuiltins x = some (.builtin id)) (ha : DVs X k W (e :: es) fs)
    (hn : x ≠ "__name__" := by decide) (hdb : (x == ("__debug__" : Str)) = false := by decide) (he : starEach (e :: es) X.env = (false, eval e X.env) :: starEach es X.env := by rfl) (hpl : (backTo pos (starEach es X.env)).any (·.1) = false := by rfl) :
    DV X k W (.Call (.Name x p) (e :: es) [] pos) (mOpS g fs) := peImp (pe_callB hc hg hm hb ha hn hdb he hpl) fun _ _ _ h => tCBV_of hv h
theorem dv_callTy {x : Str} {p : Pos} {T : String} {r : List V → Hp → VK → Prop} {g : List Val → Option Val} (hc : CallR X (.type T) r) (hv : VOpS r g) (hg : Gl X x) (hm : X.mg x = none) (hb : bootBuiltins x = some (.type T)) (ha : DVs X k W (e :: es) fs)
    (hn : x ≠ "__name__" := by decide) (hdb : (x == ("__debug__" : Str)) = false := by decide) (he : starEach (e :: es) X.env = (false, eval e X.env) :: starEach es X.env := by rfl) (hpl : (backTo pos (starEach es X.env)).any (·.1) = false := by rfl) :
    DV X k W (.Call (.Name x p) (e :: es) [] pos) (mOpS g fs) := peImp (pe_callTy hc hg hm hb ha hn hdb he hpl) fun _ _ _ h => tCBV_of hv h
/-- displays: what the roots own goes within -/
def gTupM (ws : List Val) : Option Val := if ws.length ≤ sizeLine then some (.tup ws) else none
def gLstM (ws : List Val) : Option Val := if ws.length ≤ sizeLine then some (.lst true ws) else none
theorem SR.gather {B : Base} {F H : Hp} {σ : St} {ρ : Slots} {τ : List (Option V)} {θ : Slots} {us : List V} {ws : List Val} {p : Addr} (el : us.length = ws.length) (s : SR B F H σ ρ (us.map some ++ τ) (ws.map some ++ θ)) (np : H p = none) :
    SR B (L2.upd F p (.tup us)) (L2.upd H p (.tup us)) σ ρ (some (.ref p) :: τ) (some (.tup ws) :: θ) ∧ SR B F (L2.upd H p (.lst us)) σ ρ (some (.ref p) :: τ) (some (.lst true ws) :: θ) := by
  obtain ⟨f1, f2, s⟩ := s
  have nF : F p = none := by
    cases q : F p with
    | none => rfl
    | some z => rw [s.FH p z q] at np; cases np
  have xs := Ext.laid (o := .tup us) s.FH np
  have xl := Ext.laid (o := .lst us) s.FH np
  constructor
  · have s' := s.ext xs.2
    obtain ⟨g1, g2, h1, h2, e⟩ := RepL.split (by simpa using el) s'.t
    exact ⟨f1, g1 ++ g2, s'.s, .live (.tup upd_same h1.reps) h2, fun a => by rw [← e]; exact s'.le1 a, fun a ha => s'.own a (by rw [← e] at ha; exact ha), s'.FH, s'.F0, s'.keep, s'.dom, s'.new, s'.pin⟩
  · have s' := s.ext xl.1
    obtain ⟨g1, g2, h1, h2, e⟩ := RepL.split (by simpa using el) s'.t
    have npa : ∀ a, 0 < f1.count a + f2.count a → a ≠ p := fun a ha z => by subst z; exact s.domOwn ha np
    refine ⟨f1, (p :: g1) ++ g2, s'.s, .live (.low upd_same h1.reps) h2, fun a => ?_, fun a ha => ?_, s'.FH, s'.F0, s'.keep, s'.dom, s'.new, s'.pin⟩
    · have c := s'.le1 a
      rw [e] at c
      rw [List.cons_append, List.count_cons]
      by_cases z : a = p
      · have : f1.count a + f2.count a = 0 := by
          by_cases z2 : 0 < f1.count a + f2.count a
          · exact absurd z (npa a z2)
          · omega
        rw [e] at this
        split <;> omega
      · rw [if_neg (by simpa using Ne.symm z)]
        omega
    · by_cases z : a = p
      · subst z
        exact ⟨nF, .inr (s.dom _ np)⟩
      · refine s'.own a ?_
        rw [List.cons_append, List.count_cons, if_neg (by simpa using Ne.symm z)] at ha
        rw [e]; omega
theorem dv_tup {x1} (h : DVs X k W es fs) : DV X k W (.Tuple es x1 pos) (mOpS gTupM fs) := peImp (pe_tup h) fun σ H Q ⟨B, F, ρ, τ, θ, s, hk, p⟩ => by
  refine ⟨B, F, ρ, τ, θ, s, hk, (Post.bind p).imp fun ws ρ1 p1 us F1 H1 el s1 => ?_⟩
  unfold gTupM at p1
  by_cases c : ws.length ≤ sizeLine
  · simp only [c, if_true] at p1
    exact ⟨by rw [el]; exact c, fun q nq => p1 _ _ _ (s1.gather el nq).1⟩
  · simp only [c, if_false] at p1; exact p1.elim
theorem dv_lst (h : DVs X k W es fs) : DV X k W (.List es pos) (mOpS gLstM fs) := peImp (pe_lst h) fun σ H Q ⟨B, F, ρ, τ, θ, s, hk, p⟩ => by
  refine ⟨B, F, ρ, τ, θ, s, hk, (Post.bind p).imp fun ws ρ1 p1 us F1 H1 el s1 => ?_⟩
  unfold gLstM at p1
  by_cases c : ws.length ≤ sizeLine
  · simp only [c, if_true] at p1
    exact ⟨by rw [el]; exact c, fun q nq => p1 _ _ _ (s1.gather el nq).2⟩
  · simp only [c, if_false] at p1; exact p1.elim

/-! ### tests -/
def mT (c : P Bool) : M Bool := fun ρ => match c ρ with
  | some b => .ok b ρ
  | none => .bad
theorem dvt_p {c : Expr} {fc : P Bool} (h : DT X c fc) : DVT X k W c (mT fc) := ptImp h fun σ H Q ⟨B, F, ρ, τ, θ, s, hk, p⟩ => by
  obtain ⟨f1, f2, s'⟩ := id s
  unfold mT at p
  cases q : fc ρ with
  | none => rw [q] at p; exact p.elim
  | some b =>
    rw [q] at p
    exact ⟨F, ρ, f1, s.FH, s'.s, b, q, fun F' H' x => p F' H' (s.ext x)⟩
def mTest (f : M Val) : M Bool := fun ρ => (f ρ).bind fun w ρ1 => match w with
  | .bl b => .ok b ρ1
  | _ => .bad
theorem tBV_of {mg : MG} {t : TE} (ht : ∀ σ H Q, tV mg k W f σ H Q → t σ H Q) {σ : St} {H : Hp} {Q : Bool → Hp → Prop} (h : tVT mg k W (mTest f) σ H Q) : t σ H fun x H1 => ∃ c, x = .bl c ∧ Q c H1 := by
  obtain ⟨B, F, ρ, τ, θ, s, hk, p⟩ := h
  refine ht _ _ _ ⟨B, F, ρ, τ, θ, s, hk, (Post.bind p).imp fun w ρ1 p1 u F1 H1 s1 => ?_⟩
  obtain ⟨g, r⟩ := s1.top
  cases w with
  | bl c => cases r; exact ⟨c, rfl, p1 F1 H1 s1.pop⟩
  | _ => exact p1.elim
theorem dvt_val (h : DV X k W e f) (he : ∀ whole, isTrue e X.env whole = (do let v ← whole; standAt e.pos; holding [v] (truthy v)) := by intro _; rfl) : DVT X k W e (mTest f) := ptImp (pt_val h he) fun _ _ _ q => tBV_of (fun _ _ _ z => z) q
theorem dvt_cmp {op : CmpOp} {r : R2} {g : Val → Val → Option Val} (ho : OpR X (compareOp op) r) (hv : VOp2 r g) (ha : DV X k W a fa) (hb : DV X k W b fb) (hm : behindInMarks op b = false) : DVT X k W (.Compare a [op] [b] pos) (mTest (mOp2 g fa fb)) :=
  ptImp (pt_cmpR ho ha hb hm) fun _ _ _ q => tBV_of (t := tOp r (tV X.mg k W fa) (tV X.mg k W fb)) (fun _ _ _ z => tOpV_of hv z) q
variable {ca cb : M Bool} {rest : List Expr}
abbrev DVW (X : Cx) (k : Nat) (W : WX) (e : Expr) (f : M Bool) : Prop := PW X e (tVT X.mg k W f)
theorem DVW.dvt (h : DVW X k W e ca) : DVT X k W e ca := h.pt
def mNot (c : M Bool) : M Bool := fun ρ => (c ρ).bind fun b ρ1 => .ok (!b) ρ1
def mAnd (a b : M Bool) : M Bool := fun ρ => (a ρ).bind fun x ρ1 => if x = true then b ρ1 else .ok false ρ1
def mOr (a b : M Bool) : M Bool := fun ρ => (a ρ).bind fun x ρ1 => if x = true then .ok true ρ1 else b ρ1
theorem dvt_not (h : DVT X k W a ca) : DVT X k W (.UnaryOp .Not a pos) (mNot ca) := ptImp (pt_not h) fun σ H Q ⟨B, F, ρ, τ, θ, s, hk, p⟩ =>
  ⟨B, F, ρ, τ, θ, s, hk, (Post.bind p).imp fun b ρ1 p1 F1 H1 s1 => p1 F1 H1 s1⟩
theorem dvw_and1 (h : DVT X k W a ca) : DVW X k W (.BoolOp .And [a] pos) ca := pw_and1 h
theorem dvw_or1 (h : DVT X k W a ca) : DVW X k W (.BoolOp .Or [a] pos) ca := pw_or1 h
theorem dvw_and (h : DVT X k W a ca) (h2 : DVW X k W (.BoolOp .And (b :: rest) pos) cb) : DVW X k W (.BoolOp .And (a :: b :: rest) pos) (mAnd ca cb) := pwImp (pw_and h h2) fun σ H Q ⟨B, F, ρ, τ, θ, s, hk, p⟩ => by
  refine ⟨B, F, ρ, τ, θ, s, hk, (Post.bind p).imp fun x ρ1 p1 F1 H1 s1 => ?_⟩
  cases x with
  | true => exact iteT ⟨B, F1, ρ1, τ, θ, s1, hk, by simpa using p1⟩
  | false => exact iteF (p1 F1 H1 s1)
theorem dvw_or (h : DVT X k W a ca) (h2 : DVW X k W (.BoolOp .Or (b :: rest) pos) cb) : DVW X k W (.BoolOp .Or (a :: b :: rest) pos) (mOr ca cb) := pwImp (pw_or h h2) fun σ H Q ⟨B, F, ρ, τ, θ, s, hk, p⟩ => by
  refine ⟨B, F, ρ, τ, θ, s, hk, (Post.bind p).imp fun x ρ1 p1 F1 H1 s1 => ?_⟩
  cases x with
  | true => exact iteT (p1 F1 H1 s1)
  | false => exact iteF ⟨B, F1, ρ1, τ, θ, s1, hk, by simpa using p1⟩
def mIte (c : M Bool) (fa fb : M Val) : M Val := fun ρ => (c ρ).bind fun x ρ1 => if x = true then fa ρ1 else fb ρ1
theorem dv_ite {c : Expr} {fc : M Bool} (hc : DVT X k W c fc) (ha : DV X k W a fa) (hb : DV X k W b fb) : DV X k W (.IfExp c a b pos) (mIte fc fa fb) := peImp (pe_ifExp hc ha hb) fun σ H Q ⟨B, F, ρ, τ, θ, s, hk, p⟩ => by
  refine ⟨B, F, ρ, τ, θ, s, hk, (Post.bind p).imp fun x ρ1 p1 F1 H1 s1 => ?_⟩
  cases x with
  | true => exact iteT ⟨B, F1, ρ1, τ, θ, s1, hk, by simpa using p1⟩
  | false => exact iteF ⟨B, F1, ρ1, τ, θ, s1, hk, by simpa using p1⟩
end

/-! ### statements -/
inductive RS where
  | nx (ρ : Slots) | brk (ρ : Slots) | ct (ρ : Slots)
  | ret (w : Val) (ρ : Slots)
  | err (c : Str) (pl : Option (Str × Val)) (ρ : Slots)
  | bad
abbrev G := Slots → RS
def PostS (mg : MG) (W : WX) (B : Base) (τ : List (Option V)) (θ : Slots) (x : RS) (D : Ends) : Prop := match x with
  | .nx ρ' => ∀ σ' F' H', SR B F' H' σ' ρ' τ θ → D.nx σ' H'
  | .brk ρ' => ∀ σ' F' H', SR B F' H' σ' ρ' τ θ → D.bk σ' H'
  | .ct ρ' => ∀ σ' F' H', SR B F' H' σ' ρ' τ θ → D.ct σ' H'
  | .ret w ρ' => ∀ u σ' F' H', SR B F' H' σ' ρ' (some u :: τ) (some w :: θ) → D.rt u H'
  | .err c pl ρ' => ∀ C d σ' F' H', mg c = some (.ref C) → SR B F' H' σ' ρ' τ θ → XR F' H' pl d → W (.ref C) d σ' H'
  | .bad => False
def tS (mg : MG) (k : Nat) (W : WX) (g : G) : TS := fun D σ H => ∃ B F ρ τ θ, SR B F H σ ρ τ θ ∧ B.S0.length = k ∧ PostS mg W B τ θ (g ρ) D
abbrev DS (X : Cx) (k : Nat) (W : WX) (st : Stmt) (g : G) : Prop := PS X st (tS X.mg k W g)
abbrev DSs (X : Cx) (k : Nat) (W : WX) (st : List Stmt) (g : G) : Prop := PSs X st (tS X.mg k W g)
def RS.seq (x : RS) (g : G) : RS := match x with
  | .nx ρ => g ρ
  | .brk ρ => .brk ρ
  | .ct ρ => .ct ρ
  | .ret w ρ => .ret w ρ
  | .err c p ρ => .err c p ρ
  | .bad => .bad
@[simp] theorem RS.seq_nx (ρ : Slots) (g : G) : (RS.nx ρ).seq g = g ρ := rfl
@[simp] theorem RS.seq_brk (ρ : Slots) (g : G) : (RS.brk ρ).seq g = .brk ρ := rfl
@[simp] theorem RS.seq_ct (ρ : Slots) (g : G) : (RS.ct ρ).seq g = .ct ρ := rfl
@[simp] theorem RS.seq_ret (w : Val) (ρ : Slots) (g : G) : (RS.ret w ρ).seq g = .ret w ρ := rfl
@[simp] theorem RS.seq_err (c : Str) (p : Option (Str × Val)) (ρ : Slots) (g : G) : (RS.err c p ρ).seq g = .err c p ρ := rfl
@[simp] theorem RS.seq_bad (g : G) : RS.bad.seq g = .bad := rfl
theorem PostS.seq {mg : MG} {W : WX} {B : Base} {τ : List (Option V)} {θ : Slots} {x : RS} {g : G} {D : Ends} {k : Nat} (hk : B.S0.length = k) (h : PostS mg W B τ θ (x.seq g) D) : PostS mg W B τ θ x { D with nx := tS mg k W g D } := by
  cases x with
  | nx ρ => exact fun σ' F' H' s => ⟨B, F', ρ, τ, θ, s, hk, h⟩
  | brk ρ => exact h
  | ct ρ => exact h
  | ret w ρ => exact h
  | err c pl ρ => exact h
  | bad => exact h
section
variable {X : Cx} {k : Nat} {W : WX} {e : Expr} {st : Stmt} {rest : List Stmt} {f : M Val} {g h : G} {pos : Pos}
def sNil : G := fun ρ => .nx ρ
def sSeq (g h : G) : G := fun ρ => (g ρ).seq h
theorem dss_nil : DSs X k W [] sNil := pssImp pss_nil fun D σ H ⟨B, F, ρ, τ, θ, s, hk, p⟩ => p σ F H s
theorem dss_cons (h1 : DS X k W st g) (h2 : DSs X k W rest h) : DSs X k W (st :: rest) (sSeq g h) := pssImp (pss_cons h1 h2) fun D σ H ⟨B, F, ρ, τ, θ, s, hk, p⟩ => ⟨B, F, ρ, τ, θ, s, hk, PostS.seq hk p⟩
theorem dss_one (h1 : DS X k W st g) : DSs X k W [st] g := pss_one h1
theorem ds_pass : DS X k W (.Pass pos) sNil := psImp ps_pass fun D σ H ⟨B, F, ρ, τ, θ, s, hk, p⟩ => p σ F H s
theorem ds_break : DS X k W (.Break pos) (fun ρ => .brk ρ) := psImp ps_break fun D σ H ⟨B, F, ρ, τ, θ, s, hk, p⟩ => p σ F H s
theorem ds_continue : DS X k W (.Continue pos) (fun ρ => .ct ρ) := psImp ps_continue fun D σ H ⟨B, F, ρ, τ, θ, s, hk, p⟩ => p σ F H s
theorem ds_doc {x j pos pos'} : DS X k W (.Expr (.Constant (.str x) j pos) pos') sNil := psImp ps_doc fun D σ H ⟨B, F, ρ, τ, θ, s, hk, p⟩ => p σ F H s
/-- from an expression's end to a statement's -/
def rS {α : Type} (x : R α) (g : α → G) : RS := match x with
  | .ok a ρ => g a ρ
  | .err c p ρ => .err c p ρ
  | .bad => .bad
@[simp] theorem rS_ok {α : Type} (a : α) (ρ : Slots) (g : α → G) : rS (.ok a ρ) g = g a ρ := rfl
@[simp] theorem rS_err {α : Type} (c : Str) (p : Option (Str × Val)) (ρ : Slots) (g : α → G) : rS (.err c p ρ) g = .err c p ρ := rfl
@[simp] theorem rS_bad {α : Type} (g : α → G) : rS (.bad : R α) g = .bad := rfl
theorem PostS.ofR {α : Type} {mg : MG} {W : WX} {B : Base} {τ : List (Option V)} {θ : Slots} {x : R α} {g : α → G} {D : Ends} {σ : St} (h : PostS mg W B τ θ (rS x g) D) : Post mg W B σ τ θ x fun a ρ => PostS mg W B τ θ (g a ρ) D := by
  cases x with
  | ok a ρ => exact h
  | err c pl ρ => exact fun C d F' H' e s r => h C d σ F' H' e s r
  | bad => exact h
def sRet (f : M Val) : G := fun ρ => rS (f ρ) fun w ρ1 => .ret w ρ1
theorem ds_ret (he : DV X k W e f) : DS X k W (.Return (some e) pos) (sRet f) := psImp (ps_ret he) fun D σ H ⟨B, F, ρ, τ, θ, s, hk, p⟩ =>
  ⟨B, F, ρ, τ, θ, s, hk, (PostS.ofR p).imp fun w ρ1 p1 u F1 H1 s1 => p1 u σ F1 H1 s1⟩
def sRetN : G := fun ρ => .ret .non ρ
theorem ds_retN : DS X k W (.Return none pos) sRetN := psImp ps_retN fun D σ H ⟨B, F, ρ, τ, θ, s, hk, p⟩ => p .non σ F H (s.push (.refl s.FH) (.of .non))
def sDrop (f : M Val) : G := fun ρ => rS (f ρ) fun _ ρ1 => .nx ρ1
theorem ds_expr (he : DV X k W e f) (hs : swapsWith e none pos.line X.env = pure false := by rfl) : DS X k W (.Expr e pos) (sDrop f) := psImp (ps_expr he hs) fun D σ H ⟨B, F, ρ, τ, θ, s, hk, p⟩ =>
  ⟨B, F, ρ, τ, θ, s, hk, (PostS.ofR p).imp fun w ρ1 p1 u F1 H1 s1 => p1 σ F1 H1 s1.pop⟩
def sIf (c : M Bool) (g h : G) : G := fun ρ => rS (c ρ) fun b => if b = true then g else h
theorem ds_if {c : Expr} {a b : List Stmt} {fc : M Bool} (hc : DVT X k W c fc) (ha : DSs X k W a g) (hb : DSs X k W b h) : DS X k W (.If c a b pos) (sIf fc g h) := psImp (ps_if hc ha hb) fun D σ H ⟨B, F, ρ, τ, θ, s, hk, p⟩ => by
  refine ⟨B, F, ρ, τ, θ, s, hk, (PostS.ofR p).imp fun x ρ1 p1 F1 H1 s1 => ?_⟩
  cases x with
  | true => exact iteT ⟨B, F1, ρ1, τ, θ, s1, hk, by simpa using p1⟩
  | false => exact iteF ⟨B, F1, ρ1, τ, θ, s1, hk, by simpa using p1⟩
/-- x = e -/
def sSet (i : Nat) (f : M Val) : G := fun ρ => rS (f ρ) fun w ρ1 => .nx (ρ1.set i (some w))
theorem ds_set (i : Nat) {x : Str} {px : Pos} (he : DV X k W e f) (hN : X.N.Nodup) (hi : X.N[i]? = some x := by rfl) (hx : Loc X.env.scope x := by first | exact .inl rfl | exact .inr rfl) (hki : k ≤ i := by decide)
    (hf : X.fn x = true ∨ X.env.scope.names.lookup x = some .local := by first | exact .inl rfl | exact .inr rfl)
    (hs : swapsWithSole [.Name x px] e pos.line X.env = pure false := by rfl) (hw : swappedStores [.Name x px] e X.env = pure none := by rfl) (h1 : (assignEach [.Name x px] X.env).map (·.2) = [assign (.Name x px) X.env] := by rfl) :
    DS X k W (.Assign [.Name x px] e pos) (sSet i f) := psImp (ps_asg he (pg_name hN hi hx hf) hs hw h1) fun D σ H ⟨B, F, ρ, τ, θ, s, hk, p⟩ =>
  ⟨B, F, ρ, τ, θ, s, hk, (PostS.ofR p).imp fun w ρ1 p1 u F1 H1 s1 => p1 _ F1 H1 (s1.store (by omega))⟩

/-! ### targets: the slots `is`, and what goes there -/
def setV : St → List Nat → List V → St
  | σ, [], _ => σ
  | σ, _ :: _, [] => σ
  | σ, i :: is, u :: us => setV (σ.set i (some u)) is us
def setS : Slots → List Nat → List Val → Slots
  | ρ, [], _ => ρ
  | ρ, _ :: _, [] => ρ
  | ρ, i :: is, w :: ws => setS (ρ.set i (some w)) is ws
@[simp] theorem setV_nil {σ : St} {us : List V} : setV σ [] us = σ := by cases us <;> rfl
@[simp] theorem setS_nil {ρ : Slots} {us : List Val} : setS ρ [] us = ρ := by cases us <;> rfl
@[simp] theorem setS_cons {ρ : Slots} {i : Nat} {is : List Nat} {w : Val} {ws : List Val} : setS ρ (i :: is) (w :: ws) = setS (ρ.set i (some w)) is ws := rfl
theorem setV_append : ∀ {is js : List Nat} {us vs : List V} {σ : St}, is.length = us.length → setV σ (is ++ js) (us ++ vs) = setV (setV σ is us) js vs
  | [], _, [], _, _, _ => by simp
  | [], _, _ :: _, _, _, e => by simp at e
  | _ :: _, _, [], _, _, e => by simp at e
  | i :: is, js, u :: us, vs, σ, e => by
    show setV (σ.set i (some u)) (is ++ js) (us ++ vs) = _
    rw [setV_append (by simpa using e)]; rfl
abbrev T := Val → Option (List Val)
def tG (is : List Nat) (h : T) : TG := fun v σ H Q => ∃ F w, Le F H ∧ Pk F H v w ∧ ∃ ws, h w = some ws ∧ ∀ us, PkS F H us ws → ws.length = is.length → Q (setV σ is us) H
abbrev DG (X : Cx) (tg : Expr) (is : List Nat) (h : T) : Prop := PG X tg (tG is h)
theorem pgImp {X : Cx} {e : Expr} {t t' : TG} (h : PG X e t) (k : ∀ v σ H Q, t' v σ H Q → t v σ H Q) : PG X e t' := ⟨fun pins s σ H v u Q I r q => h.run pins s σ H v u Q I r (k v σ H Q q)⟩
def gN : T := fun w => some [w]
theorem dg_name (i : Nat) {x : Str} (hN : X.N.Nodup) (hi : X.N[i]? = some x := by rfl) (hx : Loc X.env.scope x := by first | exact .inl rfl | exact .inr rfl)
    (hf : X.fn x = true ∨ X.env.scope.names.lookup x = some .local := by first | exact .inl rfl | exact .inr rfl) : DG X (.Name x pos) [i] gN := pgImp (pg_name hN hi hx hf) fun v σ H Q ⟨F, w, hF, pk, ws, e, q⟩ => by
  cases e
  obtain ⟨g, r⟩ := pk
  exact q [v] ⟨_, .cons r .nil⟩ rfl
abbrev Ts := List Val → Option (List Val)
def tGs (is : List Nat) (h : Ts) : TGs := fun vs σ H Q => ∃ F ws, Le F H ∧ PkS F H vs ws ∧ ∃ rs, h ws = some rs ∧ ∀ us, PkS F H us rs → rs.length = is.length → Q (setV σ is us) H
abbrev DGs (X : Cx) (ts : List Expr) (is : List Nat) (h : Ts) : Prop := PGs X ts (tGs is h)
theorem pgsImp {X : Cx} {e : List Expr} {t t' : TGs} (h : PGs X e t) (k : ∀ v σ H Q, t' v σ H Q → t v σ H Q) : PGs X e t' := ⟨fun pins s σ H v u Q I r q => h.run pins s σ H v u Q I r (k v σ H Q q)⟩
def gsNil : Ts := fun ws => match ws with
  | [] => some []
  | _ :: _ => none
def gsCons (h : T) (hs : Ts) : Ts := fun ws => match ws with
  | [] => none
  | w :: ws => (h w).bind fun a => (hs ws).bind fun b => some (a ++ b)
theorem dgs_nil : DGs X [] [] gsNil := pgsImp pgs_nil fun v σ H Q ⟨F, ws, hF, pk, rs, e, q⟩ => by
  obtain ⟨g, r⟩ := pk
  cases ws with
  | nil => cases r; cases e; exact ⟨rfl, q [] ⟨_, .nil⟩ rfl⟩
  | cons _ _ => cases e
theorem dgs_cons {t : Expr} {ts : List Expr} {is js : List Nat} {h : T} {hs : Ts} (h1 : DG X t is h) (h2 : DGs X ts js hs) (he : (assignEach (t :: ts) X.env).map (·.2) = assign t X.env :: (assignEach ts X.env).map (·.2) := by rfl) : DGs X (t :: ts) (is ++ js) (gsCons h hs) := pgsImp (pgs_cons h1 h2 he) fun v σ H Q ⟨F, ws, hF, pk, rs, e, q⟩ => by
  obtain ⟨g, r⟩ := pk
  cases ws with
  | nil => cases e
  | cons w ws =>
    cases r with
    | cons r1 r2 =>
      simp only [gsCons, Option.bind_eq_some_iff] at e
      obtain ⟨a, e1, b, e2, e3⟩ := e
      cases e3
      refine ⟨_, _, rfl, F, w, hF, ⟨_, r1⟩, a, e1, fun us p1 l1 => ⟨F, ws, hF, ⟨_, r2⟩, b, e2, fun vs p2 l2 => ?_⟩⟩
      obtain ⟨g1, q1⟩ := p1
      obtain ⟨g2, q2⟩ := p2
      rw [← setV_append (by rw [q1.length, l1])]
      exact q (us ++ vs) ⟨_, q1.append q2⟩ (by simp [l1, l2])
def gTn (n : Nat) (hs : Ts) : T := fun w => match w with
  | .tup ws => if ws.length = n then hs ws else none
  | _ => none
theorem dg_tup {ts : List Expr} {j : Nat} {is : List Nat} {hs : Ts} (n : Nat) (hc : X.calm = true) (h : DGs X ts is hs) (hn : (assignEach ts X.env).length = n := by rfl) (hst : (assignEach ts X.env).findIdx? (·.1) = none := by rfl) : DG X (.Tuple ts j pos) is (gTn n hs) := pgImp (pg_tup (n := n) hc h hn hst) fun v σ H Q ⟨F, w, hF, pk, ws, e, q⟩ => by
  obtain ⟨g, r⟩ := pk
  cases w with
  | tup rs =>
    cases r with
    | tup h1 h2 =>
      simp only [gTn] at e
      split at e
      · rename_i hl
        exact ⟨_, _, rfl, .of (hF _ _ h1), by rw [h2.length]; exact hl, F, rs, hF, ⟨_, h2⟩, ws, e, q⟩
      · cases e
  | _ => cases e
theorem RepL.setAll {F H : Hp} : ∀ {is : List Nat} {us : List V} {ws : List Val} {σ : St} {ρ : Slots} {fp g : List Addr}, RepL F H σ ρ fp → Reps F H us ws g → ∃ f', RepL F H (setV σ is us) (setS ρ is ws) f'
  | [], us, ws, σ, ρ, fp, g, h, r => by
    rw [setV_nil, setS_nil]; exact ⟨_, h⟩
  | i :: is, us, ws, σ, ρ, fp, g, h, r => by
    cases ws with
    | nil => cases r; exact ⟨_, h⟩
    | cons w ws =>
      cases r with
      | cons r1 r2 =>
        obtain ⟨f', h', _⟩ := RepL.set r1 i h
        show ∃ f', RepL F H (setV (σ.set i (some _)) is _) (setS (ρ.set i (some w)) is ws) f'
        exact RepL.setAll h' r2
theorem SR.setAll {B : Base} {F H : Hp} {τ : List (Option V)} {θ : Slots} : ∀ {is : List Nat} {us : List V} {ws : List Val} {σ : St} {ρ : Slots}, SR B F H σ ρ τ θ → PkS F H us ws → noOwns ws = true → (∀ i ∈ is, B.S0.length ≤ i) → SR B F H (setV σ is us) (setS ρ is ws) τ θ
  | [], us, ws, σ, ρ, s, _, _, _ => by
    rw [setV_nil, setS_nil]; exact s
  | i :: is, us, ws, σ, ρ, s, pk, n, hk => by
    obtain ⟨g, r⟩ := pk
    cases ws with
    | nil => cases r; exact s
    | cons w ws =>
      cases r with
      | cons r1 r2 =>
        simp only [noOwns, Bool.and_eq_true] at n
        show SR B F H (setV (σ.set i (some _)) is _) (setS (ρ.set i (some w)) is ws) τ θ
        exact SR.setAll ((s.push (.refl s.FH) (.of_pk n.1 ⟨_, r1⟩)).store (hk i List.mem_cons_self)) ⟨_, r2⟩ n.2 fun j hj => hk j (List.mem_cons_of_mem _ hj)
/-- a, b = e -/
def sAsg (is : List Nat) (h : T) (f : M Val) : G := fun ρ => rS (f ρ) fun w ρ1 => match h w with
  | some ws => if noOwns ws = true then .nx (setS ρ1 is ws) else .bad
  | none => .bad
theorem ds_asg {tg : Expr} {is : List Nat} {h : T} (he : DV X k W e f) (hg : DG X tg is h) (hki : ∀ i ∈ is, k ≤ i := by decide) (hs : swapsWithSole [tg] e pos.line X.env = pure false := by rfl) (hw : swappedStores [tg] e X.env = pure none := by rfl)
    (h1 : (assignEach [tg] X.env).map (·.2) = [assign tg X.env] := by rfl) : DS X k W (.Assign [tg] e pos) (sAsg is h f) := psImp (ps_asg he hg hs hw h1) fun D σ H ⟨B, F, ρ, τ, θ, s, hk, p⟩ => by
  refine ⟨B, F, ρ, τ, θ, s, hk, (PostS.ofR p).imp fun w ρ1 p1 u F1 H1 s1 => ?_⟩
  cases q : h w with
  | none => rw [q] at p1; exact p1.elim
  | some ws =>
    rw [q] at p1
    dsimp only at p1
    by_cases n : noOwns ws = true
    · simp only [n, if_true] at p1
      exact ⟨F1, w, s1.FH, s1.top, ws, q, fun us pk _ => p1 _ F1 H1 (s1.pop.setAll pk n fun i hi => by rw [hk]; exact hki i hi)⟩
    · simp only [n] at p1; exact p1.elim
/-- x op= e, x a thing that nobody owns -/
def sAug (i : Nat) (op : Val → Val → Option Val) (f : M Val) : G := fun ρ => match (ρ[i]?).join with
  | none => .bad
  | some _ => rS (f ρ) fun y ρ1 => match (ρ1[i]?).join with
    | none => .bad
    | some x => match op x y with
      | some w => .nx (ρ1.set i (some w))
      | none => .bad
def VIp (r : TIp) (g : Val → Val → Option Val) : Prop := ∀ (F H : Hp) (x y : V) (wx wy w : Val) (Q : VK), Le F H → Pk F H x wx → Pk F H y wy → g wx wy = some w → (∀ u F' H', Ext F H F' H' → Nw F' H H' u w → Q u H') → r x y H Q
theorem ds_aug (i : Nat) {x : Str} {px : Pos} {op : Operator} {ti : TIp} {o : Val → Val → Option Val} (ho : PIp X op ti) (hv : VIp ti o) (he : DV X k W e f) (hN : X.N.Nodup) (hi : X.N[i]? = some x := by rfl) (hx : Loc X.env.scope x := by first | exact .inl rfl | exact .inr rfl) (hki : k ≤ i := by decide)
    (hf : X.fn x = true ∨ X.env.scope.names.lookup x = some .local := by first | exact .inl rfl | exact .inr rfl) : DS X k W (.AugAssign (.Name x px) op e pos) (sAug i o f) := psImp (ps_aug hN hi hx he ho hf) fun D σ H ⟨B, F, ρ, τ, θ, s, hk, p⟩ => by
  unfold sAug at p
  cases q0 : (ρ[i]?).join with
  | none => rw [q0] at p; exact p.elim
  | some w0 =>
    rw [q0] at p
    obtain ⟨v, ev, _⟩ := s.get (join_some q0)
    refine ⟨v, ev, B, F, ρ, τ, θ, s, hk, (PostS.ofR p).imp fun y ρ1 p1 u F1 H1 s1 => ?_⟩
    cases q1 : (ρ1[i]?).join with
    | none => rw [q1] at p1; exact p1.elim
    | some x =>
      rw [q1] at p1
      dsimp only at p1
      obtain ⟨v', ev', pv'⟩ := s1.get (join_some q1)
      have evv : v' = v := by rw [ev] at ev'; cases ev'; rfl
      subst evv
      cases q : o x y with
      | none => rw [q] at p1; exact p1.elim
      | some w =>
        rw [q] at p1
        exact hv F1 H1 _ u x y w _ s1.FH pv' s1.top q fun z F2 H2 x2 n => p1 _ F2 H2 ((s1.pop.push x2 n).store (by omega))
/-- while -/
def whileL (c : M Bool) (g : G) : Nat → G
  | 0, _ => .bad
  | n + 1, ρ => rS (c ρ) fun b ρ1 => if b = true then (match g ρ1 with
    | .nx ρ2 => whileL c g n ρ2
    | .ct ρ2 => whileL c g n ρ2
    | .brk ρ2 => .nx ρ2
    | .ret w ρ2 => .ret w ρ2
    | .err x p ρ2 => .err x p ρ2
    | .bad => .bad) else .nx ρ1
theorem ds_while (n : Nat) {c : Expr} {body : List Stmt} {fc : M Bool} (hp : PassesOwn (model X.prog X.w) X.A X.env X.xe) (hc : DVT X k W c fc) (hb : DSs X k W body g) : DS X k W (.While c body [] pos) (whileL fc g n) := psImp (ps_while hp hc hb) fun D σ H ⟨B, F, ρ, τ, θ, s, hk, p⟩ => by
  refine ⟨fun m σ H => ∃ F ρ, SR B F H σ ρ τ θ ∧ PostS X.mg W B τ θ (whileL fc g m ρ) D, ⟨n, F, ρ, s, p⟩, ?_⟩
  rintro m σ1 H1 ⟨F1, ρ1, s1, p1⟩
  cases m with
  | zero => exact p1.elim
  | succ m =>
    unfold whileL at p1
    refine ⟨B, F1, ρ1, τ, θ, s1, hk, (PostS.ofR p1).imp fun b ρ2 p2 F2 H2 s2 => ?_⟩
    cases b with
    | false => exact iteF (p2 σ1 F2 H2 s2)
    | true =>
      simp only [if_true] at p2
      refine iteT ⟨fun σ' H' => ∃ F' ρ', SR B F' H' σ' ρ' τ θ ∧ PostS X.mg W B τ θ (whileL fc g m ρ') D, fun σ' H' ⟨F', ρ', s', p'⟩ => ⟨m, Nat.lt_succ_self m, F', ρ', s', p'⟩, B, F2, ρ2, τ, θ, s2, hk, ?_⟩
      cases q : g ρ2 with
      | nx ρ3 => rw [q] at p2; exact fun σ' F' H' s' => ⟨F', ρ3, s', p2⟩
      | ct ρ3 => rw [q] at p2; exact fun σ' F' H' s' => ⟨F', ρ3, s', p2⟩
      | brk ρ3 => rw [q] at p2; exact p2
      | ret w ρ3 => rw [q] at p2; exact p2
      | err x pl ρ3 => rw [q] at p2; exact p2
      | bad => rw [q] at p2; exact p2
end
end L2.DL

namespace L2.DL
open L2 PyProof.Rows PySem.Spec PySem

/-! ### what is walked -/
def Src (J : It) (u : V) (w : Val) (ws : List Val) : Prop := ∀ F H, Le F H → Pk F H u w → (∀ i, ws.length ≤ i → J.stop i H) ∧ ∀ (i : Nat) (wi : Val), ws[i]? = some wi → J.go i H ∧ ∀ x H', J.yld i H x H' → ∃ F', Ext F H F' H' ∧ Pk F' H' x wi
abbrev WW := Val × List Val
def tI (mg : MG) (k : Nat) (W : WX) (f : M WW) : TI := fun σ H Q => ∃ B F ρ τ θ, SR B F H σ ρ τ θ ∧ B.S0.length = k ∧
  Post mg W B σ τ θ (f ρ) fun ww ρ' => ∀ u F' H' J, SR B F' H' σ ρ' (some u :: τ) (some ww.1 :: θ) → Src J u ww.1 ww.2 → Q J H'
abbrev DI (X : Cx) (k : Nat) (W : WX) (tg e : Expr) (f : M WW) : Prop := PI X tg e (tI X.mg k W f)
def tIP (f : P WW) : TI := fun σ H Q => ∃ F ρ fp, Le F H ∧ RepL F H σ ρ fp ∧ ∃ ww, f ρ = some ww ∧ ∀ u F' H' J, Ext F H F' H' → Pk F' H' u ww.1 → Src J u ww.1 ww.2 → Q J H'
abbrev DIP (X : Cx) (tg e : Expr) (f : P WW) : Prop := PI X tg e (tIP f)
theorem piImp {X : Cx} {tg e : Expr} {t t' : TI} (h : PI X tg e t) (k : ∀ σ H Q, t' σ H Q → t σ H Q) : PI X tg e t' := ⟨fun pins s σ H Q I q => h.run pins s σ H Q I (k σ H Q q)⟩
theorem piCase {X : Cx} {tg e : Expr} {t' : TI} (k : ∀ σ H Q, t' σ H Q → ∃ t, PI X tg e t ∧ t σ H Q) : PI X tg e t' := ⟨fun pins s σ H Q I q => let ⟨_, h, q'⟩ := k σ H Q q; h.run pins s σ H Q I q'⟩
theorem peCase {X : Cx} {e : Expr} {t' : TE} (k : ∀ σ H Q, t' σ H Q → ∃ t, PE X e t ∧ t σ H Q) : PE X e t' := ⟨fun pins s σ H Q I q => let ⟨_, h, q'⟩ := k σ H Q q; h.run pins s σ H Q I q'⟩
theorem src_list {K : PySem.W.Frag} {a : Addr} {o : Bool} {ws : List Val} : Src (Itl K a) (.ref a) (.lst o ws) ws := fun F H hF ⟨g, r⟩ => by
  obtain ⟨xs, hx, g', r'⟩ : ∃ xs, SqL K H a xs ∧ ∃ g', Reps F H xs ws g' := by
    cases r with
    | lsh h1 h2 => exact ⟨_, .of (hF _ _ h1), _, h2⟩
    | low h1 h2 => exact ⟨_, .of h1, _, h2⟩
  refine ⟨fun i hi => ⟨xs, hx, by rw [r'.length]; exact hi⟩, fun i wi e => ?_⟩
  obtain ⟨v, g2, e1, rv, _⟩ := r'.get e
  exact ⟨⟨xs, v, hx, e1⟩, fun x H' ⟨eH, k⟩ => by subst eH; have := (k xs hx).symm.trans e1; cases this; exact ⟨F, .refl hF, g2, rv⟩⟩
theorem src_tup {K : PySem.W.Frag} {a : Addr} {ws : List Val} : Src (Itt K a) (.ref a) (.tup ws) ws := fun F H hF ⟨g, r⟩ => by
  cases r with
  | @tup _ xs _ _ h1 r' =>
    have hx : SqT K H a xs := .of (hF _ _ h1)
    refine ⟨fun i hi => ⟨xs, hx, by rw [r'.length]; exact hi⟩, fun i wi e => ?_⟩
    obtain ⟨v, g2, e1, rv, _⟩ := r'.get e
    exact ⟨⟨xs, v, hx, e1⟩, fun x H' ⟨eH, k⟩ => by subst eH; have := (k xs hx).symm.trans e1; cases this; exact ⟨F, .refl hF, g2, rv⟩⟩
theorem src_tpz {K : PySem.W.Frag} {a : Addr} {ws : List Val} : Src (Itt K a) (.ref a) (.tpz ws) ws := fun F H hF ⟨g, r⟩ => by
  cases r with
  | @tpz _ ob xs _ _ h1 h0 r' =>
    have hx : SqT K H a xs := .inl (.inr ⟨ob, hF _ _ h1⟩)
    refine ⟨fun i hi => ⟨xs, hx, by rw [r'.length]; exact hi⟩, fun i wi e => ?_⟩
    obtain ⟨v, g2, e1, rv, _⟩ := r'.get e
    exact ⟨⟨xs, v, hx, e1⟩, fun x H' ⟨eH, k⟩ => by subst eH; have := (k xs hx).symm.trans e1; cases this; exact ⟨F, .refl hF, g2, rv⟩⟩
/-- a text's signs -/
def signs (s : Str) : List Val := s.cps.toList.map fun c => .str ⟨#[c]⟩
theorem src_str {s : Str} {u : V} {w : Val} : Src (Its s) u w (signs s) := fun F H hF _ => by
  refine ⟨fun i hi => by show s.cps.size ≤ i; simpa [signs] using hi, fun i wi e => ?_⟩
  simp only [signs, List.getElem?_map, Option.map_eq_some_iff] at e
  obtain ⟨c, e1, rfl⟩ := e
  have e2 : s.cps[i]? = some c := by simpa using e1
  refine ⟨(Array.getElem?_eq_some_iff.mp e2).1, fun x H' ⟨eH, d, e3, ex⟩ => ?_⟩
  subst eH
  rw [e2] at e3; cases e3
  subst ex
  exact ⟨F, .refl hF, _, .str _⟩
def rng (lo hi : Int) : List Val := (List.range (hi - lo).toNat).map fun i => .int (lo + (i : Nat))
theorem src_rng {lo hi : Int} {u : V} {w : Val} : Src (Itr lo (hi - lo).toNat) u w (rng lo hi) := fun F H hF _ => by
  refine ⟨fun i h => by show (hi - lo).toNat ≤ i; simpa [rng] using h, fun i wi e => ?_⟩
  simp only [rng, List.getElem?_map, Option.map_eq_some_iff] at e
  obtain ⟨j, e1, rfl⟩ := e
  obtain ⟨hlt, e2⟩ := List.getElem?_eq_some_iff.mp e1
  simp at hlt e2
  subst e2
  exact ⟨by show i < (hi - lo).toNat; omega, fun x H' ⟨eH, ex⟩ => by subst eH; subst ex; exact ⟨F, .refl hF, _, .int _⟩⟩
section
variable {X : Cx} {k : Nat} {W : WX} {tg e a b : Expr} {pos p : Pos}
/-- lists, tuples, texts by their kind -/
def seqOf (w : Val) : Option WW := match w with
  | .lst _ ws => some (w, ws)
  | .tup ws => some (w, ws)
  | .tpz ws => some (w, ws)
  | .str s => some (w, signs s)
  | _ => none
def pSeq (f : P Val) : P WW := fun ρ => (f ρ).bind seqOf
def mSeq (f : M Val) : M WW := fun ρ => (f ρ).bind fun w ρ1 => match seqOf w with
  | some ww => .ok ww ρ1
  | none => .bad
theorem dip_seq {f : P Val} (h : DP X e f) : DIP X tg e (pSeq f) := piCase fun σ H Q ⟨F, ρ, fp, hF, r, ww, ew, k⟩ => by
  simp only [pSeq, Option.bind_eq_some_iff] at ew
  obtain ⟨w, e1, e2⟩ := ew
  cases w with
  | lst o ws =>
    cases e2
    refine ⟨_, pi_list h, F, ρ, fp, hF, r, _, e1, fun u F' H' x pk => ?_⟩
    obtain ⟨g, rr⟩ := id pk
    have : ∃ a, u = .ref a ∧ ∃ xs, SqL X.K H' a xs := by
      cases rr with
      | lsh h1 h2 => exact ⟨_, rfl, _, .of (x.FH _ _ h1)⟩
      | low h1 h2 => exact ⟨_, rfl, _, .of h1⟩
    obtain ⟨a, rfl, xs, hx⟩ := this
    exact ⟨a, rfl, ⟨xs, hx⟩, k _ F' H' _ x pk src_list⟩
  | tup ws =>
    cases e2
    refine ⟨_, pi_tup h, F, ρ, fp, hF, r, _, e1, fun u F' H' x pk => ?_⟩
    obtain ⟨g, rr⟩ := id pk
    cases rr with
    | tup h1 h2 => exact ⟨_, rfl, ⟨_, .of (x.FH _ _ h1)⟩, k _ F' H' _ x pk src_tup⟩
  | tpz ws =>
    cases e2
    refine ⟨_, pi_tup h, F, ρ, fp, hF, r, _, e1, fun u F' H' x pk => ?_⟩
    obtain ⟨g, rr⟩ := id pk
    cases rr with
    | tpz h1 h0 h2 => exact ⟨_, rfl, ⟨_, .inl (.inr ⟨_, x.FH _ _ h1⟩)⟩, k _ F' H' _ x pk src_tpz⟩
  | str s =>
    cases e2
    refine ⟨_, pi_str h, F, ρ, fp, hF, r, _, e1, fun u F' H' x pk => ?_⟩
    obtain ⟨g, rr⟩ := id pk
    cases rr
    exact ⟨s, rfl, k _ F' H' _ x pk src_str⟩
  | _ => cases e2
theorem di_seq {f : M Val} (h : DV X k W e f) : DI X k W tg e (mSeq f) := piCase fun σ H Q ⟨B, F, ρ, τ, θ, s, hk, p⟩ => by
  unfold mSeq at p
  cases q : f ρ with
  | bad => rw [q] at p; exact p.elim
  | err c pl ρ1 => rw [q] at p; exact ⟨_, pi_list h, B, F, ρ, τ, θ, s, hk, by rw [q]; exact p⟩
  | ok w ρ1 =>
    rw [q] at p
    dsimp only [R.bind] at p
    cases w with
    | lst o ws =>
      refine ⟨_, pi_list h, B, F, ρ, τ, θ, s, hk, ?_⟩
      rw [q]
      intro u F' H' s'
      obtain ⟨g, rr⟩ := s'.top
      have : ∃ a, u = .ref a ∧ ∃ xs, SqL X.K H' a xs := by
        cases rr with
        | lsh h1 h2 => exact ⟨_, rfl, _, .of (s'.FH _ _ h1)⟩
        | low h1 h2 => exact ⟨_, rfl, _, .of h1⟩
      obtain ⟨a, rfl, xs, hx⟩ := this
      exact ⟨a, rfl, ⟨xs, hx⟩, p _ F' H' _ s' src_list⟩
    | tup ws =>
      refine ⟨_, pi_tup h, B, F, ρ, τ, θ, s, hk, ?_⟩
      rw [q]
      intro u F' H' s'
      obtain ⟨g, rr⟩ := s'.top
      cases rr with
      | tup h1 h2 => exact ⟨_, rfl, ⟨_, .of (s'.FH _ _ h1)⟩, p _ F' H' _ s' src_tup⟩
    | tpz ws =>
      refine ⟨_, pi_tup h, B, F, ρ, τ, θ, s, hk, ?_⟩
      rw [q]
      intro u F' H' s'
      obtain ⟨g, rr⟩ := s'.top
      cases rr with
      | tpz h1 h0 h2 => exact ⟨_, rfl, ⟨_, .inl (.inr ⟨_, s'.FH _ _ h1⟩)⟩, p _ F' H' _ s' src_tpz⟩
    | str t =>
      refine ⟨_, pi_str h, B, F, ρ, τ, θ, s, hk, ?_⟩
      rw [q]
      intro u F' H' s'
      obtain ⟨g, rr⟩ := s'.top
      cases rr
      exact ⟨t, rfl, p _ F' H' _ s' src_str⟩
    | _ => exact p.elim
/-- |i| < n, told so that nothing counts down from n -/
def ltA (i : Int) (n : Nat) : Bool := Nat.ble (i.natAbs + 1) n
theorem ltA_iff {i : Int} {n : Nat} : ltA i n = true ↔ i.natAbs < n := by unfold ltA; rw [Nat.ble_eq]; exact Iff.rfl
theorem ltA_of {i : Int} {n : Nat} (h : i.natAbs < n) : ltA i n = true := ltA_iff.mpr h
def lim62 (i : Int) : Bool := ltA i (2 ^ 62)
theorem lim62_ok {i : Int} (h : lim62 i = true) : -(2 ^ 62) ≤ i ∧ i < 2 ^ 62 := by have := ltA_iff.mp h; omega
def rngOf (ws : List Val) : Option WW := match ws with
  | [.int j] => if lim62 j = true then some (.non, rng 0 j) else none
  | [.int i, .int j] => if lim62 i = true && lim62 j = true then some (.non, rng i j) else none
  | _ => none
def pRng (fs : P (List Val)) : P WW := fun ρ => (fs ρ).bind rngOf
def mRng (fs : M (List Val)) : M WW := fun ρ => (fs ρ).bind fun w ρ1 => match rngOf w with
  | some ww => .ok ww ρ1
  | none => .bad
theorem rngOf1 {x : Val} {ww : WW} (h : rngOf [x] = some ww) : ∃ j, x = .int j ∧ lim62 j = true ∧ ww = (.non, rng 0 j) := by
  cases x <;> simp [rngOf] at h
  exact ⟨_, rfl, h.1, h.2.symm⟩
theorem rngOf2 {x y : Val} {ww : WW} (h : rngOf [x, y] = some ww) : ∃ i j, x = .int i ∧ y = .int j ∧ lim62 i = true ∧ lim62 j = true ∧ ww = (.non, rng i j) := by
  cases x <;> cases y <;> simp [rngOf] at h
  exact ⟨_, _, rfl, rfl, h.1.1, h.1.2, h.2.symm⟩
theorem PkS.one {F H : Hp} {us : List V} {w : Val} (h : PkS F H us [w]) : ∃ u, us = [u] ∧ Pk F H u w := by
  obtain ⟨g, r⟩ := h
  cases r with
  | cons r1 r2 => cases r2; exact ⟨_, rfl, _, r1⟩
theorem PkS.two {F H : Hp} {us : List V} {w z : Val} (h : PkS F H us [w, z]) : ∃ u v, us = [u, v] ∧ Pk F H u w ∧ Pk F H v z := by
  obtain ⟨g, r⟩ := h
  cases r with
  | cons r1 r2 =>
    obtain ⟨v, e, pk⟩ := PkS.one ⟨_, r2⟩
    subst e
    exact ⟨_, _, rfl, ⟨_, r1⟩, pk⟩
theorem Pk.int {F H : Hp} {u : V} {i : Int} (h : Pk F H u (.int i)) : u = .int i := by
  obtain ⟨g, r⟩ := h
  cases r; rfl
theorem Pk.bl {F H : Hp} {u : V} {i : Bool} (h : Pk F H u (.bl i)) : u = .bl i := by
  obtain ⟨g, r⟩ := h
  cases r; rfl
theorem Pk.str {F H : Hp} {u : V} {i : Str} (h : Pk F H u (.str i)) : u = .str i := by
  obtain ⟨g, r⟩ := h
  cases r; rfl
theorem dip_rng1 {fs : P (List Val)} (hg : Gl X "range") (hm : X.mg "range" = none) (ha : DPs X [a] fs) (h1 : ∀ ρ ws, fs ρ = some ws → ws.length = 1) (hs : starEach [a] X.env = [(false, eval a X.env)] := by rfl) : DIP X tg (.Call (.Name "range" p) [a] [] pos) (pRng fs) :=
  piImp (pi_range1 hg hm ha hs) fun σ H Q ⟨F, ρ, fp, hF, r, ww, ew, k⟩ => by
  simp only [pRng, Option.bind_eq_some_iff] at ew
  obtain ⟨ws, e1, e2⟩ := ew
  refine ⟨F, ρ, fp, hF, r, ws, e1, fun us F' H' x pk => ?_⟩
  have hl := h1 _ _ e1
  match ws, hl with
  | [w], _ =>
    obtain ⟨j, rfl, hj, rfl⟩ := rngOf1 e2
    obtain ⟨u, rfl, pu⟩ := pk.one
    have := pu.int; subst this
    refine ⟨j, rfl, (lim62_ok hj).1, (lim62_ok hj).2, ?_⟩
    have s := @src_rng 0 j .non .non
    simp only [Int.sub_zero] at s
    exact k .non F' H' _ x ⟨_, .non⟩ s
theorem dip_rng2 {fs : P (List Val)} (hg : Gl X "range") (hm : X.mg "range" = none) (ha : DPs X [a, b] fs) (h1 : ∀ ρ ws, fs ρ = some ws → ws.length = 2) (hs : starEach [a, b] X.env = [(false, eval a X.env), (false, eval b X.env)] := by rfl) (hs2 : starEach [b] X.env = [(false, eval b X.env)] := by rfl) : DIP X tg (.Call (.Name "range" p) [a, b] [] pos) (pRng fs) :=
  piImp (pi_range2 hg hm ha hs hs2) fun σ H Q ⟨F, ρ, fp, hF, r, ww, ew, k⟩ => by
  simp only [pRng, Option.bind_eq_some_iff] at ew
  obtain ⟨ws, e1, e2⟩ := ew
  refine ⟨F, ρ, fp, hF, r, ws, e1, fun us F' H' x pk => ?_⟩
  have hl := h1 _ _ e1
  match ws, hl with
  | [w, z], _ =>
    obtain ⟨i, j, rfl, rfl, hi, hj, rfl⟩ := rngOf2 e2
    obtain ⟨u, v, rfl, pu, pv⟩ := pk.two
    have := pu.int; subst this
    have := pv.int; subst this
    exact ⟨i, j, rfl, ⟨(lim62_ok hi).1, (lim62_ok hi).2, (lim62_ok hj).1, (lim62_ok hj).2⟩, k .non F' H' _ x ⟨_, .non⟩ src_rng⟩
theorem di_rng1 {fs : M (List Val)} (hg : Gl X "range") (hm : X.mg "range" = none) (ha : DVs X k W [a] fs) (h1 : ∀ ρ ws ρ', fs ρ = .ok ws ρ' → ws.length = 1) (hs : starEach [a] X.env = [(false, eval a X.env)] := by rfl) : DI X k W tg (.Call (.Name "range" p) [a] [] pos) (mRng fs) :=
  piImp (pi_range1 hg hm ha hs) fun σ H Q ⟨B, F, ρ, τ, θ, s, hk, p⟩ => by
  unfold mRng at p
  refine ⟨B, F, ρ, τ, θ, s, hk, ?_⟩
  cases q : fs ρ with
  | bad => rw [q] at p; exact p.elim
  | err c pl ρ1 => rw [q] at p; exact p
  | ok ws ρ1 =>
    rw [q] at p
    dsimp only [R.bind] at p
    intro us F' H' el s'
    have hl := h1 _ _ _ q
    match ws, hl with
    | [w], _ =>
      cases q2 : rngOf [w] with
      | none => rw [q2] at p; exact p.elim
      | some ww =>
        rw [q2] at p
        obtain ⟨j, rfl, hj, rfl⟩ := rngOf1 q2
        obtain ⟨u, rfl, pu⟩ := (s'.tops el).one
        have := pu.int; subst this
        refine ⟨j, rfl, (lim62_ok hj).1, (lim62_ok hj).2, ?_⟩
        have s2 := @src_rng 0 j .non .non
        simp only [Int.sub_zero] at s2
        have s3 : SR B F' H' σ ρ1 τ θ := s'.pop
        exact p .non F' H' _ (s3.push (.refl s3.FH) (.of .non)) s2
theorem di_rng2 {fs : M (List Val)} (hg : Gl X "range") (hm : X.mg "range" = none) (ha : DVs X k W [a, b] fs) (h1 : ∀ ρ ws ρ', fs ρ = .ok ws ρ' → ws.length = 2) (hs : starEach [a, b] X.env = [(false, eval a X.env), (false, eval b X.env)] := by rfl) (hs2 : starEach [b] X.env = [(false, eval b X.env)] := by rfl) : DI X k W tg (.Call (.Name "range" p) [a, b] [] pos) (mRng fs) :=
  piImp (pi_range2 hg hm ha hs hs2) fun σ H Q ⟨B, F, ρ, τ, θ, s, hk, p⟩ => by
  unfold mRng at p
  refine ⟨B, F, ρ, τ, θ, s, hk, ?_⟩
  cases q : fs ρ with
  | bad => rw [q] at p; exact p.elim
  | err c pl ρ1 => rw [q] at p; exact p
  | ok ws ρ1 =>
    rw [q] at p
    dsimp only [R.bind] at p
    intro us F' H' el s'
    have hl := h1 _ _ _ q
    match ws, hl with
    | [w, z], _ =>
      cases q2 : rngOf [w, z] with
      | none => rw [q2] at p; exact p.elim
      | some ww =>
        rw [q2] at p
        obtain ⟨i, j, rfl, rfl, hi, hj, rfl⟩ := rngOf2 q2
        obtain ⟨u, v, rfl, pu, pv⟩ := (s'.tops el).two
        have := pu.int; subst this
        have := pv.int; subst this
        have s3 : SR B F' H' σ ρ1 τ θ := s'.pop.pop
        exact ⟨i, j, rfl, ⟨(lim62_ok hi).1, (lim62_ok hi).2, (lim62_ok hj).1, (lim62_ok hj).2⟩, p .non F' H' _ (s3.push (.refl s3.FH) (.of .non)) src_rng⟩
theorem psOne {f : P Val} {ρ : Slots} {ws : List Val} (h : psCons f psNil ρ = some ws) : ws.length = 1 := by
  obtain ⟨x, xs, _, h2, rfl⟩ := psCons_some h
  cases h2; rfl
theorem psTwo {f g : P Val} {ρ : Slots} {ws : List Val} (h : psCons f (psCons g psNil) ρ = some ws) : ws.length = 2 := by
  obtain ⟨x, xs, _, h2, rfl⟩ := psCons_some h
  simp [psOne h2]
theorem msCons_ok {f : M Val} {fs : M (List Val)} {ρ ρ' : Slots} {w : List Val} (h : msCons f fs ρ = .ok w ρ') : ∃ x xs ρ1, f ρ = .ok x ρ1 ∧ fs ρ1 = .ok xs ρ' ∧ w = x :: xs := by
  unfold msCons at h
  cases q : f ρ with
  | bad => rw [q] at h; cases h
  | err _ _ _ => rw [q] at h; cases h
  | ok x ρ1 =>
    rw [q] at h
    dsimp only [R.bind] at h
    cases q2 : fs ρ1 with
    | bad => rw [q2] at h; cases h
    | err _ _ _ => rw [q2] at h; cases h
    | ok xs ρ2 => rw [q2] at h; cases h; exact ⟨_, _, _, rfl, q2, rfl⟩
theorem msOne {f : M Val} {ρ ρ' : Slots} {ws : List Val} (h : msCons f msNil ρ = .ok ws ρ') : ws.length = 1 := by
  obtain ⟨x, xs, _, _, h2, rfl⟩ := msCons_ok h
  cases h2; rfl
theorem msTwo {f g : M Val} {ρ ρ' : Slots} {ws : List Val} (h : msCons f (msCons g msNil) ρ = .ok ws ρ') : ws.length = 2 := by
  obtain ⟨x, xs, _, _, h2, rfl⟩ := msCons_ok h
  simp [msOne h2]

/-! ### for -/
def forL (is : List Nat) (h : T) (g : G) : List Val → G
  | [], ρ => .nx ρ
  | w :: ws, ρ => match h w with
    | none => .bad
    | some rs => if noOwns rs = true then (match g (setS ρ is rs) with
      | .nx ρ2 => forL is h g ws ρ2
      | .ct ρ2 => forL is h g ws ρ2
      | .brk ρ2 => .nx ρ2
      | .ret w ρ2 => .ret w ρ2
      | .err x p ρ2 => .err x p ρ2
      | .bad => .bad) else .bad
def sFor (is : List Nat) (h : T) (f : M WW) (g : G) : G := fun ρ => rS (f ρ) fun ww => forL is h g ww.2
theorem ds_for {iter : Expr} {body : List Stmt} {f : M WW} {is : List Nat} {h : T} {g : G} (hp : PassesOwn (model X.prog X.w) X.A X.env X.xe) (hc : X.calm = true) (hi : DI X k W tg iter f) (hg : DG X tg is h) (hb : DSs X k W body g) (hki : ∀ i ∈ is, k ≤ i := by decide)
    (hs : ∀ x, foldedSetIterable iter X.env x = pure x := by intro _; rfl) : DS X k W (.For tg iter body [] pos) (sFor is h f g) := psImp (ps_for hp hc hi hg hb hs) fun D σ H ⟨B, F, ρ, τ, θ, s, hk, p⟩ => by
  refine ⟨B, F, ρ, τ, θ, s, hk, (PostS.ofR p).imp fun ww ρ1 p1 u F1 H1 J s1 src => ?_⟩
  have stp : ∀ {i : Nat} {σ : St} {F H : Hp} {ρ : Slots}, SR B F H σ ρ (some u :: τ) (some ww.1 :: θ) → ww.2.length ≤ i → J.stop i H := fun s hi => (src _ _ s.FH s.top).1 _ hi
  refine ⟨fun i m σ H => i + m = ww.2.length ∧ ∃ F ρ, SR B F H σ ρ (some u :: τ) (some ww.1 :: θ) ∧ PostS X.mg W B τ θ (forL is h g (ww.2.drop i) ρ) D, ⟨ww.2.length, by omega, F1, ρ1, s1, by simpa using p1⟩, ?_⟩
  rintro i m σ2 H2 ⟨him, F2, ρ2, s2, p2⟩
  by_cases hlt : i < ww.2.length
  · right
    have e : ww.2.drop i = ww.2[i] :: ww.2.drop (i + 1) := List.drop_eq_getElem_cons hlt
    rw [e] at p2
    obtain ⟨hgo, hy⟩ := (src _ _ s2.FH s2.top).2 i ww.2[i] (by simp [hlt])
    refine ⟨hgo, fun σ' H' => ∃ F ρ, SR B F H' σ' ρ (some u :: τ) (some ww.1 :: θ) ∧ PostS X.mg W B τ θ (forL is h g (ww.2.drop (i + 1)) ρ) D, fun σ' H' ⟨F', ρ', s', p'⟩ => ⟨m - 1, by omega, by omega, F', ρ', s', p'⟩, fun x H3 yl => ?_⟩
    obtain ⟨F3, x3, pk⟩ := hy x H3 yl
    unfold forL at p2
    cases q : h ww.2[i] with
    | none => rw [q] at p2; exact p2.elim
    | some rs =>
      rw [q] at p2
      dsimp only at p2
      by_cases n : noOwns rs = true
      · simp only [n, if_true] at p2
        refine ⟨F3, _, x3.FH, pk, rs, q, fun us pus _ => ?_⟩
        have s4 := ((s2.ext x3).setAll pus n fun i hi => by rw [hk]; exact hki i hi)
        refine ⟨B, F3, _, _, _, s4, hk, ?_⟩
        cases q2 : g (setS ρ2 is rs) with
        | nx ρ3 => rw [q2] at p2; exact fun σ' F' H' s' => ⟨F', ρ3, s', p2⟩
        | ct ρ3 => rw [q2] at p2; exact fun σ' F' H' s' => ⟨F', ρ3, s', p2⟩
        | brk ρ3 => rw [q2] at p2; exact fun σ' F' H' s' => p2 σ' F' H' s'.pop
        | ret w ρ3 => rw [q2] at p2; exact fun v σ' F' H' s' => p2 v σ' F' H' s'.under1
        | err x pl ρ3 => rw [q2] at p2; exact fun C d σ' F' H' e s' r => p2 C d σ' F' H' e s'.pop r
        | bad => rw [q2] at p2; exact p2.elim
      · simp only [n] at p2; exact p2.elim
  · left
    have e : ww.2.drop i = [] := List.drop_eq_nil_of_le (by omega)
    rw [e] at p2
    exact ⟨stp s2 (by omega), p2 σ2 F2 H2 s2.pop⟩
end
end L2.DL

namespace L2.DL
open L2 PyProof.Rows PySem.Spec PySem

/-! ### comprehensions -/
def wipeS : Slots → List Nat → Slots
  | ρ, [] => ρ
  | ρ, v :: vs => (wipeS ρ vs).set v none
theorem wipe_get (σ : St) : ∀ (vs : List Nat) (j : Nat), (wipe σ vs)[j]? = if j ∈ vs then (σ[j]?).map (fun _ => none) else σ[j]?
  | [], j => by simp [wipe]
  | v :: vs, j => by
    unfold wipe
    rw [List.getElem?_set]
    have ih := wipe_get σ vs j
    by_cases h : v = j
    · subst h
      simp only [if_true, wipe_length, List.mem_cons, true_or]
      split
      · rename_i h2
        rw [List.getElem?_eq_getElem h2]; rfl
      · rename_i h2
        rw [List.getElem?_eq_none (by omega)]; rfl
    · simp only [h, if_false, ih, List.mem_cons, Ne.symm h, false_or]
theorem wipe_set {σ : St} {i : Nat} {x : Option V} {vs : List Nat} (h : i ∈ vs) : wipe (σ.set i x) vs = wipe σ vs := by
  apply List.ext_getElem?
  intro j
  rw [wipe_get, wipe_get]
  by_cases hj : j ∈ vs
  · simp only [hj, if_true]
    rw [List.getElem?_set]
    split
    · rename_i e; subst e
      split
      · rename_i h2; rw [List.getElem?_eq_getElem h2]; rfl
      · rename_i h2; rw [List.getElem?_eq_none (by omega)]
    · rfl
  · simp only [hj, if_false]
    rw [List.getElem?_set_ne]
    intro e; subst e; exact hj h
theorem wipe_setV {vs : List Nat} : ∀ {is : List Nat} {us : List V} {σ : St}, (∀ i ∈ is, i ∈ vs) → wipe (setV σ is us) vs = wipe σ vs
  | [], us, σ, _ => by simp
  | i :: is, [], σ, _ => rfl
  | i :: is, u :: us, σ, h => by
    show wipe (setV (σ.set i (some u)) is us) vs = _
    rw [wipe_setV fun j hj => h j (List.mem_cons_of_mem _ hj), wipe_set (h i List.mem_cons_self)]
theorem wipe_wipe {σ : St} {vs : List Nat} : wipe (wipe σ vs) vs = wipe σ vs := by
  apply List.ext_getElem?
  intro j
  rw [wipe_get, wipe_get]
  by_cases hj : j ∈ vs
  · simp only [hj, if_true, Option.map_map]; rfl
  · simp only [hj, if_false]
theorem RepL.wipe {F H : Hp} {σ : St} {ρ : Slots} {fp : List Addr} (h : RepL F H σ ρ fp) : ∀ vs : List Nat, ∃ f', RepL F H (L2.wipe σ vs) (wipeS ρ vs) f' ∧ ∀ a, f'.count a ≤ fp.count a
  | [] => ⟨fp, h, fun _ => Nat.le_refl _⟩
  | v :: vs => by
    obtain ⟨f1, h1, c1⟩ := RepL.wipe h vs
    obtain ⟨f2, h2, c2⟩ := RepL.kill (v := none) v h1
    exact ⟨f2, h2, fun a => Nat.le_trans (c2 a) (c1 a)⟩
theorem SR.wipe {B : Base} {F H : Hp} {σ : St} {ρ : Slots} {τ : List (Option V)} {θ : Slots} (s : SR B F H σ ρ τ θ) : ∀ {vs : List Nat}, (∀ i ∈ vs, B.S0.length ≤ i) → SR B F H (L2.wipe σ vs) (wipeS ρ vs) τ θ
  | [], _ => s
  | v :: vs, h => (SR.wipe s fun i hi => h i (List.mem_cons_of_mem _ hi)).kill (h v List.mem_cons_self)
theorem SR.unwipe {B : Base} {F H : Hp} {σ : St} {τ : List (Option V)} {θ : Slots} : ∀ {vs : List Nat} {ρ : Slots}, SR B F H (L2.wipe σ vs) ρ τ θ → (∀ i ∈ vs, B.S0.length ≤ i) → SR B F H σ (wipeS ρ vs) τ θ := by
  intro vs ρ s hk
  -- each slot of vs is dead in wipeS ρ vs: its place in σ may hold anything
  have key : ∀ (ws : List Nat) (σ2 : St), (∀ i ∈ ws, B.S0.length ≤ i) → SR B F H σ2 ρ τ θ → SR B F H (ws.foldr (fun v s => s.set v ((σ[v]?).join)) σ2) (wipeS ρ ws) τ θ := by
    intro ws
    induction ws with
    | nil => intro σ2 _ s2; exact s2
    | cons w ws ih =>
      intro σ2 h s2
      exact (ih σ2 (fun i hi => h i (List.mem_cons_of_mem _ hi)) s2).kill (h w List.mem_cons_self)
  have e : vs.foldr (fun v s => s.set v ((σ[v]?).join)) (L2.wipe σ vs) = σ := by
    have g : ∀ (ws : List Nat) (σ2 : St) (j : Nat), σ2.length = σ.length → (ws.foldr (fun v s => s.set v ((σ[v]?).join)) σ2)[j]? = if j ∈ ws then σ[j]? else σ2[j]? := by
      intro ws
      induction ws with
      | nil => intro σ2 j _; simp
      | cons w ws ih =>
        intro σ2 j hl
        have ih' := ih σ2 j hl
        have hlen : ∀ (ws : List Nat), (ws.foldr (fun v s => s.set v ((σ[v]?).join)) σ2).length = σ2.length := by
          intro ws
          induction ws with
          | nil => rfl
          | cons a r ih => simp [ih]
        rw [List.foldr_cons, List.getElem?_set, hlen, ih']
        by_cases h : w = j
        · subst h
          simp only [if_true, List.mem_cons, true_or, hl]
          split
          · rename_i h2; rw [List.getElem?_eq_getElem h2]; rfl
          · rename_i h2; rw [List.getElem?_eq_none (by omega)]
        · simp only [h, if_false, List.mem_cons, Ne.symm h, false_or]
    apply List.ext_getElem?
    intro j
    rw [g vs _ j (wipe_length _ _), wipe_get]
    by_cases hj : j ∈ vs
    · simp [hj]
    · simp [hj]
  have := key vs _ hk s
  rw [e] at this
  exact this

/-- what only looks -/
def compP (is : List Nat) (h : T) (c : P Bool) (f : P Val) (ρ0 : Slots) : List Val → Option (List Val)
  | [] => some []
  | w :: ws => (h w).bind fun rs => (c (setS ρ0 is rs)).bind fun b => if b = true then (f (setS ρ0 is rs)).bind fun y => (compP is h c f ρ0 ws).map (y :: ·) else compP is h c f ρ0 ws
def pComp (vs is : List Nat) (src : P WW) (h : T) (c : P Bool) (f : P Val) : P Val := fun ρ => (src ρ).bind fun ww => (compP is h c f (wipeS ρ vs) ww.2).bind fun rs => if rs.length ≤ sizeLine then some (.lst true rs) else none
def pYes : P Bool := fun _ => some true
section
variable {X : Cx} {k : Nat} {W : WX} {tg elt iter : Expr} {ifs : List Expr} {scope : Scope} {own : List (Str × Nat)} {pos : Pos}
theorem dts_nil : PTs X [] (tPT pYes) := ⟨fun pins s σ H Q I ⟨F, ρ, fp, hF, r, b, e, k⟩ => by
  cases e
  exact pts_nil.run pins s σ H Q I (k F H (.refl hF))⟩
theorem dts_one {c : Expr} {fc : P Bool} (h : DT X c fc) : PTs X [c] (tPT fc) := pts_one h
theorem pLc_of {src : P WW} {is : List Nat} {h : T} {c : P Bool} {f : P Val} (his : ∀ i ∈ is, i ∈ own.map (·.2)) {σ : St} {H : Hp} {Q : VK} : tF (pComp (own.map (·.2)) is src h c f) σ H Q → tLc (tIP src) (tG is h) (tPT c) (tF f) (own.map (·.2)) σ H Q := fun ⟨F, ρ, fp, hF, r, w, ew, kk⟩ => by
  simp only [pComp, Option.bind_eq_some_iff] at ew
  obtain ⟨ww, e1, tot, e2, e3⟩ := ew
  split at e3
  case isFalse => cases e3
  case isTrue hsz =>
  cases e3
  refine ⟨F, ρ, fp, hF, r, ww, e1, fun u F1 H1 J x1 pk src => ?_⟩
  intro D nD
  have nFD : F1 D = none := by
    cases q : F1 D with
    | none => rfl
    | some z => rw [x1.FH D z q] at nD; cases nD
  obtain ⟨f0, r0, _⟩ := RepL.wipe (r.ext x1) (own.map (·.2))
  refine ⟨fun i m H => i + m = ww.2.length ∧ ∃ F accV accW g rest, Ext F1 H1 F H ∧ H D = some (.lst accV) ∧ F D = none ∧ Reps F H accV accW g ∧ (∀ a, g.count a ≤ 1) ∧ (∀ a ∈ g, H1 a = none ∧ F a = none ∧ a ≠ D) ∧
      compP is h c f (wipeS ρ (own.map (·.2))) (ww.2.drop i) = some rest ∧ accW ++ rest = tot, ⟨ww.2.length, by omega, F1, [], [], [], tot, (Ext.laid x1.FH nD).1, upd_same, nFD, .nil, fun a => by simp, fun a ha => (by cases ha), by simpa using e2, rfl⟩, ?_⟩
  rintro i m H2 ⟨him, F2, accV, accW, g, rest, x2, hD, nD2, ra, cg, kg, ec, et⟩
  have nD1 : ∀ a, H1 a ≠ none → a ≠ D := fun a ha z => by subst z; exact ha nD
  by_cases hlt : i < ww.2.length
  · right
    have e : ww.2.drop i = ww.2[i] :: ww.2.drop (i + 1) := List.drop_eq_getElem_cons hlt
    rw [e] at ec
    simp only [compP, Option.bind_eq_some_iff] at ec
    obtain ⟨rs, q1, b, q2, q3⟩ := ec
    obtain ⟨hgo, hy⟩ := (src _ _ x2.FH (pk.ext x2)).2 i ww.2[i] (by simp [hlt])
    refine ⟨hgo, fun H => ∃ F accV accW g rest, Ext F1 H1 F H ∧ H D = some (.lst accV) ∧ F D = none ∧ Reps F H accV accW g ∧ (∀ a, g.count a ≤ 1) ∧ (∀ a ∈ g, H1 a = none ∧ F a = none ∧ a ≠ D) ∧
      compP is h c f (wipeS ρ (own.map (·.2))) (ww.2.drop (i + 1)) = some rest ∧ accW ++ rest = tot, fun H' hW => ⟨m - 1, by omega, by omega, hW⟩, fun x H3 yl => ?_⟩
    obtain ⟨F3, x3, pk3⟩ := hy x H3 yl
    refine ⟨F3, _, x3.FH, pk3, rs, q1, fun us pus _ => ?_⟩
    refine ⟨(wipe_setV his).trans wipe_wipe, ?_⟩
    have x13 := x2.trans x3
    obtain ⟨gu, ru⟩ := pus
    obtain ⟨f1, r1⟩ := RepL.setAll (is := is) (r0.ext x13) ru
    -- how what stands is kept while the heap grows
    have nDk : ∀ {F' H' : Hp}, Ext F2 H2 F' H' → F' D = none := fun {F' H'} x => by
      cases q : F' D with
      | none => rfl
      | some z =>
        rcases x.new D (by rw [q]; simp) with y | y | ⟨ys, y⟩
        · exact absurd nD2 y
        · rw [hD] at y; cases y
        · have := x.FH D _ y
          rw [x.leH _ _ hD] at this; cases this
    have gk : ∀ {F' H' : Hp}, Ext F2 H2 F' H' → ∀ a ∈ g, H1 a = none ∧ F' a = none ∧ a ≠ D := fun {F' H'} x a ha => by
      obtain ⟨k1, k2, k3⟩ := kg a ha
      refine ⟨k1, ?_, k3⟩
      cases q : F' a with
      | none => rfl
      | some z =>
        rcases x.new a (by rw [q]; simp) with y | y | ⟨ys, y⟩
        · exact absurd k2 y
        · exact absurd y (ra.dom a ha)
        · have := x.FH a _ y
          rw [x.keepH (ra.dom a ha)] at this
          exact absurd this (ra.notup a ha ys)
    refine ⟨F3, _, f1, x3.FH, r1, b, q2, fun F4 H4 x4 => ?_⟩
    have x24 := x3.trans x4
    cases b with
    | false =>
      simp only [Bool.false_eq_true, if_false] at q3
      refine iteF ⟨F4, accV, accW, g, rest, x2.trans x24, x24.leH _ _ hD, nDk x24, ra.ext x24, cg, gk x24, q3, et⟩
    | true =>
      simp only [if_true, Option.bind_eq_some_iff, Option.map_eq_some_iff] at q3
      obtain ⟨y, q4, rest', q5, q6⟩ := q3
      refine iteT ⟨F4, _, f1, x4.FH, r1.ext x4, y, q4, fun v F5 H5 x5 nw => ?_⟩
      have x25 := x24.trans x5
      obtain ⟨gy, ry, cy, ky⟩ := nw
      subst q6
      have hlen : accW.length + (rest'.length + 1) = tot.length := by rw [← et]; simp
      have nD5 := nDk x25
      have hD5 : H5 D = some (.lst accV) := x25.leH _ _ hD
      refine ⟨accV, hD5, by rw [ra.length]; omega, ?_⟩
      have gky : ∀ a ∈ gy, a ≠ D := fun a ha z => by subst z; have := (ky _ ha).1; rw [x24.leH _ _ hD] at this; cases this
      have keep : ∀ a, a ≠ D → (L2.upd H5 D (.lst (accV ++ [v]))) a = H5 a := fun a ha => upd_ne ha
      refine ⟨F5, accV ++ [v], accW ++ [y], g ++ gy, rest', ?_, upd_same, nD5, ?_, fun a => ?_, fun a ha => ?_, q5, by rw [← et]; simp⟩
      · have x15 := x2.trans x25
        refine ⟨fun a o ho => by rw [keep a (nD1 a (by rw [ho]; simp))]; exact x15.leH a o ho, x15.leF, fun a o ho => ?_, x15.new⟩
        have : a ≠ D := fun z => by subst z; rw [nD5] at ho; cases ho
        rw [keep a this]; exact x15.FH a o ho
      · have ra5 : Reps F5 (L2.upd H5 D (.lst (accV ++ [v]))) accV accW g := (ra.ext x25).mono (.refl _) fun a ha => keep a (kg a ha).2.2
        have ry5 : Rep F5 (L2.upd H5 D (.lst (accV ++ [v]))) v y gy := ry.mono (.refl _) fun a ha => keep a (gky a ha)
        have := ra5.append (Reps.cons ry5 .nil)
        simpa using this
      · rw [List.count_append]
        have h1 := cg a
        have h2 := cy a
        by_cases z : 0 < g.count a
        · have hd := ra.dom a (mem_of_count z)
          by_cases z2 : 0 < gy.count a
          · have := (ky a (mem_of_count z2)).1
            exact absurd (x24.none this) hd
          · omega
        · omega
      · rcases List.mem_append.mp ha with ha | ha
        · exact gk x25 a ha
        · refine ⟨(x2.trans x24).none (ky a ha).1, (ky a ha).2, gky a ha⟩
  · left
    have e : ww.2.drop i = [] := List.drop_eq_nil_of_le (by omega)
    rw [e] at ec
    cases ec
    simp only [List.append_nil] at et
    subst et
    refine ⟨(src _ _ x2.FH (pk.ext x2)).1 i (by omega), ?_⟩
    refine kk _ F2 H2 (x1.trans x2) ⟨D :: g, .low hD ra, fun a => ?_, fun a ha => ?_⟩
    · rw [List.count_cons]
      have := cg a
      by_cases z : D = a
      · subst z
        have : ¬ 0 < g.count D := fun z => (kg D (mem_of_count z)).2.2 rfl
        simp; omega
      · rw [if_neg (by simpa using z)]; omega
    · rcases List.mem_cons.mp ha with rfl | ha
      · exact ⟨x1.none nD, nD2⟩
      · exact ⟨x1.none (kg a ha).1, (kg a ha).2.1⟩
theorem df_comp {src : P WW} {is : List Nat} {h : T} {c : P Bool} {f : P Val} (hc : X.calm = true) (hN : X.N.Nodup) (hi : DIP X tg iter src) (ok : BlkOk X.N X.env.scope scope own)
    (hg : ∀ (s : Shared) (H : Hp) (C : Addr) (cl : List (Str × Addr)) (fp : List Addr), DG (X.blk s H scope (compEnvC scope cl C X.env) fp) tg is h)
    (ht : ∀ (s : Shared) (H : Hp) (C : Addr) (cl : List (Str × Addr)) (fp : List Addr), PTs (X.blk s H scope (compEnvC scope cl C X.env) fp) ifs (tPT c))
    (he : ∀ (s : Shared) (H : Hp) (C : Addr) (cl : List (Str × Addr)) (fp : List Addr), DF (X.blk s H scope (compEnvC scope cl C X.env) fp) elt f)
    (his : ∀ i ∈ is, i ∈ own.map (·.2) := by decide) (hs : ∀ x, foldedSetIterable iter X.env x = pure x := by intro _; rfl) :
    DF X (.ListComp elt [⟨tg, iter, ifs, 0⟩] scope pos) (pComp (own.map (·.2)) is src h c f) := peImp (pe_lc hc hN hi ok hg ht he hs) fun _ _ _ q => pLc_of his q
/-- what does -/
def nE {α : Type} (x : R α) : R α := match x with
  | .ok a ρ => .ok a ρ
  | .err _ _ _ => .bad
  | .bad => .bad
@[simp] theorem nE_ok {α : Type} (a : α) (ρ : Slots) : nE (.ok a ρ) = .ok a ρ := rfl
def compM (vs is : List Nat) (h : T) (c : M Bool) (f : M Val) : List Val → List Val → M (List Val)
  | [], acc, ρ => .ok acc ρ
  | w :: ws, acc, ρ => match h w with
    | none => .bad
    | some rs => if noOwns rs = true then (nE (c (setS ρ is rs))).bind fun b ρ2 => if b = true then (nE (f ρ2)).bind fun y ρ3 => if acc.length < sizeLine then compM vs is h c f ws (acc ++ [y]) (wipeS ρ3 vs) else .bad
      else compM vs is h c f ws acc (wipeS ρ2 vs) else .bad
def mComp (vs is : List Nat) (src : M WW) (h : T) (c : M Bool) (f : M Val) : M Val := fun ρ => (src ρ).bind fun ww ρ1 => (compM vs is h c f ww.2 [] (wipeS ρ1 vs)).bind fun rs ρ2 => .ok (.lst true rs) (wipeS ρ2 vs)
theorem compM_noErr {vs is : List Nat} {h : T} {c : M Bool} {f : M Val} : ∀ {ws acc : List Val} {ρ : Slots} {x : Str} {p : Option (Str × Val)} {ρ' : Slots}, compM vs is h c f ws acc ρ ≠ .err x p ρ'
  | [], _, _, _, _, _ => by intro z; cases z
  | w :: ws, acc, ρ, x, p, ρ' => by
    intro z
    unfold compM at z
    split at z
    · cases z
    · split at z
      · rename_i rs _ _
        cases q : c (setS ρ is rs) with
        | bad => rw [q] at z; cases z
        | err _ _ _ => rw [q] at z; cases z
        | ok b ρ2 =>
          rw [q] at z
          simp only [nE_ok, R.bind_ok] at z
          split at z
          · cases q2 : f ρ2 with
            | bad => rw [q2] at z; cases z
            | err _ _ _ => rw [q2] at z; cases z
            | ok y ρ3 =>
              rw [q2] at z
              simp only [nE_ok, R.bind_ok] at z
              split at z
              · exact compM_noErr z
              · cases z
          · exact compM_noErr z
      · cases z
theorem dvts_nil : PTs X [] (tVT X.mg k W (mT pYes)) := ⟨fun pins s σ H Q I ⟨B, F, ρ, τ, θ, sr, hk, p⟩ => pts_nil.run pins s σ H Q I (p F H sr)⟩
theorem dvts_one {c : Expr} {fc : M Bool} (h : DVT X k W c fc) : PTs X [c] (tVT X.mg k W fc) := pts_one h
theorem mLc_of {src : M WW} {is : List Nat} {h : T} {c : M Bool} {f : M Val} (his : ∀ i ∈ is, i ∈ own.map (·.2)) (hki : ∀ i ∈ own.map (·.2), k ≤ i) {σ : St} {H : Hp} {Q : VK} : tV X.mg k W (mComp (own.map (·.2)) is src h c f) σ H Q → tLc (tI X.mg k W src) (tG is h) (tVT X.mg k W0 c) (tV X.mg k W0 f) (own.map (·.2)) σ H Q := fun ⟨B, F, ρ, τ, θ, s, hk, p⟩ => by
  refine ⟨B, F, ρ, τ, θ, s, hk, (Post.bind p).imp fun ww ρ1 p1 u F1 H1 J s1 src => ?_⟩
  intro D nD
  have hkv : ∀ i ∈ own.map (·.2), B.S0.length ≤ i := fun i hi => by rw [hk]; exact hki i hi
  have hki' : ∀ i ∈ is, B.S0.length ≤ i := fun i hi => hkv i (his i hi)
  -- what the rest of the walk gives
  let fin : R (List Val) → Prop := fun x => Post X.mg W B σ τ θ (x.bind fun rs ρ2 => .ok (.lst true rs) (wipeS ρ2 (own.map (·.2)))) fun w ρ' => ∀ u F' H', SR B F' H' σ ρ' (some u :: τ) (some w :: θ) → Q u H'
  have s0 : SR B F1 (L2.upd H1 D (.lst [])) (wipe σ (own.map (·.2))) (wipeS ρ1 (own.map (·.2))) (some (.ref D) :: some u :: τ) (some (.lst true []) :: some ww.1 :: θ) := by
    have := (SR.gather (us := []) (ws := []) rfl (s1.wipe hkv) nD).2
    exact this
  refine ⟨fun i m H => i + m = ww.2.length ∧ ∃ F ρ acc, SR B F H (wipe σ (own.map (·.2))) ρ (some (.ref D) :: some u :: τ) (some (.lst true acc) :: some ww.1 :: θ) ∧ fin (compM (own.map (·.2)) is h c f (ww.2.drop i) acc ρ), ⟨ww.2.length, by omega, F1, _, [], s0, by simpa using p1⟩, ?_⟩
  rintro i m H2 ⟨him, F2, ρ2, acc, s2, p2⟩
  by_cases hlt : i < ww.2.length
  · right
    have e : ww.2.drop i = ww.2[i] :: ww.2.drop (i + 1) := List.drop_eq_getElem_cons hlt
    rw [e] at p2
    obtain ⟨hgo, hy⟩ := (src _ _ s2.FH s2.pop.top).2 i ww.2[i] (by simp [hlt])
    refine ⟨hgo, fun H => ∃ F ρ acc, SR B F H (wipe σ (own.map (·.2))) ρ (some (.ref D) :: some u :: τ) (some (.lst true acc) :: some ww.1 :: θ) ∧ fin (compM (own.map (·.2)) is h c f (ww.2.drop (i + 1)) acc ρ), fun H' hW => ⟨m - 1, by omega, by omega, hW⟩, fun x H3 yl => ?_⟩
    obtain ⟨F3, x3, pk3⟩ := hy x H3 yl
    unfold compM at p2
    cases q : h ww.2[i] with
    | none => rw [q] at p2; exact p2.elim
    | some rs =>
      rw [q] at p2
      dsimp only at p2
      by_cases n : noOwns rs = true
      case neg => simp only [n] at p2; exact p2.elim
      case pos =>
      simp only [n, if_true] at p2
      refine ⟨F3, _, x3.FH, pk3, rs, q, fun us pus _ => ?_⟩
      refine ⟨(wipe_setV his).trans wipe_wipe, ?_⟩
      have s3 := (s2.ext x3).setAll pus n hki'
      have ewipe : wipe (setV (wipe σ (own.map (·.2))) is us) (own.map (·.2)) = wipe σ (own.map (·.2)) := (wipe_setV his).trans wipe_wipe
      refine ⟨B, F3, _, _, _, s3, hk, ?_⟩
      cases qc : c (setS ρ2 is rs) with
      | bad => rw [qc] at p2; exact p2.elim
      | err _ _ _ => rw [qc] at p2; exact p2.elim
      | ok b ρ3 =>
        rw [qc] at p2
        simp only [nE_ok, R.bind_ok] at p2
        intro F4 H4 s4
        cases b with
        | false =>
          simp only [Bool.false_eq_true, if_false] at p2
          have s5 := s4.wipe hkv
          rw [ewipe] at s5
          exact iteF ⟨F4, _, acc, s5, p2⟩
        | true =>
          simp only [if_true] at p2
          refine iteT ⟨B, F4, ρ3, _, _, s4, hk, ?_⟩
          cases qf : f ρ3 with
          | bad => rw [qf] at p2; exact p2.elim
          | err _ _ _ => rw [qf] at p2; exact p2.elim
          | ok y ρ4 =>
            rw [qf] at p2
            simp only [nE_ok, R.bind_ok] at p2
            intro v F5 H5 s5
            by_cases hsz : acc.length < sizeLine
            case neg => simp only [hsz, if_false] at p2; exact p2.elim
            case pos =>
            simp only [hsz, if_true] at p2
            -- v goes into the list at D
            obtain ⟨f1, f2, s6⟩ := id s5
            obtain ⟨s7, t7, c7, o7, FH7, F07, keep7, dom7, new7, pin7⟩ := s6
            cases t7 with
            | @live _ _ _ _ gy _ ry t7 =>
            cases t7 with
            | @live _ _ _ _ gd g2 rd t7 =>
            cases rd with
            | @low _ accV _ ga hD ra =>
            refine ⟨accV, hD, by rw [ra.length]; exact hsz, ?_⟩
            have keep : ∀ a, a ≠ D → (L2.upd H5 D (.lst (accV ++ [v]))) a = H5 a := fun a ha => upd_ne ha
            have cD := c7 D
            simp only [List.count_append, List.count_cons_self] at cD
            have nin : ∀ {l : List Addr}, l.count D = 0 → ∀ a ∈ l, a ≠ D := fun {l} z a ha e => by subst e; have := count_of_mem ha; omega
            have oD := o7 D (by simp only [List.count_append, List.count_cons_self]; omega)
            have s8 : SR B F5 (L2.upd H5 D (.lst (accV ++ [v]))) (setV (wipe σ (own.map (·.2))) is us) ρ4 (some (.ref D) :: some u :: τ) (some (.lst true (acc ++ [y])) :: some ww.1 :: θ) := by
              refine ⟨f1, (D :: (ga ++ gy)) ++ g2, s7.mono (.refl _) fun a ha => keep a (nin (by omega) a ha), .live (.low upd_same ?_) (t7.mono (.refl _) fun a ha => keep a (nin (by omega) a ha)), fun a => ?_, fun a ha => ?_, fun a o ho => ?_, F07, fun a o h1 h2 => ?_, fun a ha => ?_, new7, pin7⟩
              · have r1 : Reps F5 (L2.upd H5 D (.lst (accV ++ [v]))) accV acc ga := ra.mono (.refl _) fun a ha => keep a (nin (by omega) a ha)
                have r2 : Rep F5 (L2.upd H5 D (.lst (accV ++ [v]))) v y gy := ry.mono (.refl _) fun a ha => keep a (nin (by omega) a ha)
                have := r1.append (Reps.cons r2 .nil)
                simpa using this
              · have := c7 a
                simp only [List.count_append, List.count_cons] at this ⊢
                omega
              · have := o7 a
                simp only [List.count_append, List.count_cons] at this ha
                exact this (by omega)
              · have : a ≠ D := fun z => by subst z; rw [oD.1] at ho; cases ho
                rw [keep a this]; exact FH7 a o ho
              · have : a ≠ D := fun z => by
                  subst z
                  rcases oD.2 with z | z
                  · exact h2 z
                  · rw [h1] at z; cases z
                rw [keep a this]; exact keep7 a o h1 h2
              · have : a ≠ D := fun z => by subst z; rw [upd_same] at ha; cases ha
                rw [keep a this] at ha; exact dom7 a ha
            have s9 := s8.wipe hkv
            rw [ewipe] at s9
            exact ⟨F5, _, acc ++ [y], s9, p2⟩
  · left
    have e : ww.2.drop i = [] := List.drop_eq_nil_of_le (by omega)
    rw [e] at p2
    exact ⟨(src _ _ s2.FH s2.pop.top).1 i (by omega), p2 _ F2 H2 ((s2.under1).unwipe hkv)⟩
theorem dv_comp {src : M WW} {is : List Nat} {h : T} {c : M Bool} {f : M Val} (hc : X.calm = true) (hN : X.N.Nodup) (hi : DI X k W tg iter src) (ok : BlkOk X.N X.env.scope scope own)
    (hg : ∀ (s : Shared) (H : Hp) (C : Addr) (cl : List (Str × Addr)) (fp : List Addr), DG (X.blk s H scope (compEnvC scope cl C X.env) fp) tg is h)
    (ht : ∀ (s : Shared) (H : Hp) (C : Addr) (cl : List (Str × Addr)) (fp : List Addr), PTs (X.blk s H scope (compEnvC scope cl C X.env) fp) ifs (tVT X.mg k W0 c))
    (he : ∀ (s : Shared) (H : Hp) (C : Addr) (cl : List (Str × Addr)) (fp : List Addr), DV (X.blk s H scope (compEnvC scope cl C X.env) fp) k W0 elt f)
    (his : ∀ i ∈ is, i ∈ own.map (·.2) := by decide) (hki : ∀ i ∈ own.map (·.2), k ≤ i := by decide) (hs : ∀ x, foldedSetIterable iter X.env x = pure x := by intro _; rfl) :
    DV X k W (.ListComp elt [⟨tg, iter, ifs, 0⟩] scope pos) (mComp (own.map (·.2)) is src h c f) := peImp (pe_lc (te := tV X.mg k W0 f) hc hN hi ok hg ht he hs) fun _ _ _ q => mLc_of his hki q
end
end L2.DL

namespace L2.DL
open L2 PyProof.Rows PySem.Spec PySem

/-! ### what a def promises -/
inductive R0 where
  | ok (w : Val)
  | err (c : Str) (pl : Option (Str × Val))
  | bad
inductive R1 where
  | ok (w : Val) (outs : Slots)
  | err (c : Str) (pl : Option (Str × Val)) (outs : Slots)
  | bad
/-- a def that changes nothing of what it is handed -/
def spP (mg : MG) (n : Nat) (m : List Val → R0) : Sp := fun vs H Q E => ∃ F ws, ws.length = n ∧ Le F H ∧ Reps F H vs ws [] ∧ match m ws with
  | .ok w => ∀ u F' H', Ext F H F' H' → Nw F' H H' u w → Q u H'
  | .err c pl => ∀ C d F' H', mg c = some (.ref C) → Ext F H F' H' → XR F' H' pl d → E (.ref C) d H'
  | .bad => False
/-- a def that may change what it is handed and the caller owns -/
def spIO (mg : MG) (n : Nat) (m : List Val → R1) : Sp := fun vs H Q E => ∃ F ws g, ws.length = n ∧ Reps F H vs ws g ∧ (∀ a, g.count a ≤ 1) ∧ (∀ a ∈ g, F a = none) ∧ Le F H ∧ match m ws with
  | .ok w outs => ∀ u F' H', SR ⟨H, F, g, vs⟩ F' H' (vs.map some) outs [some u] [some w] → Q u H'
  | .err c pl outs => ∀ C d F' H', mg c = some (.ref C) → SR ⟨H, F, g, vs⟩ F' H' (vs.map some) outs [] [] → XR F' H' pl d → E (.ref C) d H'
  | .bad => False
def startS (n : Nat) (ws : List Val) : Slots := ws.map some ++ List.replicate (n - ws.length) none
def fnP (n : Nat) (g : G) (ws : List Val) : R0 := match g (startS n ws) with
  | .nx _ => .ok .non
  | .ret w _ => .ok w
  | .err c pl _ => .err c pl
  | _ => .bad
def fnIO (n np : Nat) (g : G) (ws : List Val) : R1 := match g (startS n ws) with
  | .nx ρ => .ok .non (ρ.take np)
  | .ret w ρ => .ok w (ρ.take np)
  | .err c pl ρ => .err c pl (ρ.take np)
  | _ => .bad
section
variable {P : Program} {w : World} {K : PySem.W.Frag} {mg : MG} {base : Heap}
/-- the body of a def has the denotation g -/
def BodyOk (P : Program) (w : World) (K : PySem.W.Frag) (mg : MG) (base : Heap) (N : List Str) (qual : Str) (sc : Scope) (f : Addr) (k : Nat) (body : List Stmt) (np : Nat) (g : G) : Prop :=
  ∀ (cdv : Value) (A : Around) (outer : List Env) (s : Shared) (H : Hp) (E : XK), Room k (A.deeper (envOfC qual sc s.heap.objs.size f cdv)) →
    Takes (cxOf (L2.CX P w) P w K mg base N qual sc f cdv A outer s H E) (fun c d _ H => E c d H) →
    PassesOwn (model P w) (A.deeper (envOfC qual sc s.heap.objs.size f cdv)) (envOfC qual sc s.heap.objs.size f cdv) (cxOf (L2.CX P w) P w K mg base N qual sc f cdv A outer s H E).xe →
    DSs (cxOf (L2.CX P w) P w K mg base N qual sc f cdv A outer s H E) np (fun c d _ H => E c d H) body g
theorem sr_start {F H : Hp} {vs : List V} {ws : List Val} {g : List Addr} {N : List Str} (hl : ws.length ≤ N.length) (r : Reps F H vs ws g) (c : ∀ a, g.count a ≤ 1) (nF : ∀ a ∈ g, F a = none) (hF : Le F H) :
    SR ⟨H, F, g, vs⟩ F H (start N vs) (startS N.length ws) [] [] := by
  have el := r.length
  refine ⟨g, [], ?_, .nil, fun a => by have := c a; simpa using this, fun a ha => ?_, hF, .refl _, fun a o h _ => h, fun a h => h, fun a h => .inl h, fun i v e => ?_⟩
  · have h1 := RepL.of_reps r
    have h2 : RepL F H (List.replicate (N.length - vs.length) (none : Option V)) (List.replicate (N.length - ws.length) none) [] := by
      have := @RepL.nones F H (List.replicate (N.length - vs.length) (none : Option V))
      rw [List.length_replicate] at this
      rw [← el]; exact this
    have := h1.append h2
    simpa [start, startS] using this
  · rw [List.count_nil] at ha
    exact ⟨nF a (mem_of_count (by omega)), .inl (mem_of_count (by omega))⟩
  · have hi : i < vs.length := (List.getElem?_eq_some_iff.mp e).1
    show (start N vs)[i]? = _
    unfold start
    rw [List.getElem?_append_left (by simpa using hi), List.getElem?_map]
    have e' : vs[i]? = some v := e
    rw [e']; rfl
theorem xe_takes {N : List Str} {qual : Str} {sc : Scope} {f : Addr} {cdv : Value} {A : Around} {outer : List Env} {s : Shared} {H : Hp} {E : XK} : Takes (cxOf (L2.CX P w) P w K mg base N qual sc f cdv A outer s H E) (fun c d _ H => E c d H) :=
  takes_of rfl rfl rfl rfl
theorem fn_pure {x qual : Str} {st : Stmt} {f : Addr} {fd : FuncData} {N ps : List Str} {k : Nat} {g : G} (F : Fun K x qual st f fd) (S : FnScope N ps (defScope st)) (hb : BodyOk P w K mg base N qual (defScope st) f k (defBody st) ps.length g) :
    FnOk P w K mg base (L2.CX P w) (k + 1) f fd ps (spP mg ps.length (fnP N.length g)) := by
  refine F.okX S (fun vs H Q E ⟨F, ws, hl, _, r, _⟩ => by rw [r.length]; exact hl) (fun cdv A outer s H vs Q E hr ⟨F, ws, hl, hF, r, p⟩ => ?_)
  refine ⟨_, hb cdv A outer s H E hr xe_takes (passes_of rfl), ⟨H, F, [], vs⟩, F, startS N.length ws, [], [], ?_, by show vs.length = _; rw [r.length]; exact hl, ?_⟩
  · refine sr_start ?_ r (fun a => by simp) (fun a ha => by cases ha) hF
    have := congrArg List.length S.pre
    rw [List.length_take] at this
    omega
  · have key : ∀ {F' H' : Hp} {σ' : St} {ρ' : Slots} {τ θ}, SR ⟨H, F, [], vs⟩ F' H' σ' ρ' τ θ → Ext F H F' H' := fun s => by
      obtain ⟨f1, f2, s⟩ := s
      refine ⟨fun a o h => s.keep a o h (by simp), s.F0, s.FH, fun a h => ?_⟩
      rcases s.new a h with z | z | z | z
      · exact .inl z
      · exact .inr (.inl z)
      · cases z
      · exact .inr (.inr z)
    unfold fnP at p
    cases q : g (startS N.length ws) with
    | nx ρ => rw [q] at p; exact fun σ' F' H' s => p .non F' H' (key s) (.of .non)
    | ret v ρ =>
      rw [q] at p
      intro u σ' F' H' s
      refine p u F' H' (key s) ?_
      obtain ⟨f1, f2, s⟩ := s
      cases s.t with
      | @live _ _ _ _ gg _ h1 t =>
        refine ⟨gg, h1, fun a => by have := s.le1 a; rw [List.count_append] at this; omega, fun a ha => ?_⟩
        obtain ⟨k1, k2⟩ := s.own a (by rw [List.count_append]; have := count_of_mem ha; omega)
        rcases k2 with k2 | k2
        · cases k2
        · exact ⟨k2, k1⟩
    | err c pl ρ => rw [q] at p; exact fun C d σ' F' H' e s r => p C d F' H' e (key s) r
    | brk ρ => rw [q] at p; exact p.elim
    | ct ρ => rw [q] at p; exact p.elim
    | bad => rw [q] at p; exact p.elim
theorem SR.takeP {B : Base} {F H : Hp} {σ : St} {ρ : Slots} {τ : List (Option V)} {θ : Slots} {vs : List V} (s : SR B F H σ ρ τ θ) (e : B.S0 = vs) : SR B F H (vs.map some) (ρ.take vs.length) τ θ := by
  obtain ⟨f1, f2, s⟩ := s
  have hl := s.s.length
  have e1 : σ.take vs.length = vs.map some := by
    apply List.ext_getElem?
    intro i
    by_cases hi : i < vs.length
    · rw [List.getElem?_take_of_lt hi, List.getElem?_map]
      have := s.pin i vs[i] (by rw [e]; simp [hi])
      rw [this]; simp [hi]
    · rw [List.getElem?_eq_none (by rw [List.length_take]; omega), List.getElem?_eq_none (by simp; omega)]
  have hs : RepL F H (σ.take vs.length ++ σ.drop vs.length) (ρ.take vs.length ++ ρ.drop vs.length) f1 := by rw [List.take_append_drop, List.take_append_drop]; exact s.s
  obtain ⟨g1, g2, h1, h2, eg⟩ := RepL.split (by rw [List.length_take, List.length_take, hl]) hs
  rw [e1] at h1
  refine ⟨g1, f2, h1, s.t, fun a => ?_, fun a ha => ?_, s.FH, s.F0, s.keep, s.dom, s.new, fun i v h => ?_⟩
  · have := s.le1 a; rw [eg, List.count_append] at this; omega
  · exact s.own a (by rw [eg, List.count_append]; omega)
  · rw [e] at h
    rw [List.getElem?_map, h]; rfl
theorem fn_io {x qual : Str} {st : Stmt} {f : Addr} {fd : FuncData} {N ps : List Str} {k : Nat} {g : G} (F : Fun K x qual st f fd) (S : FnScope N ps (defScope st)) (hb : BodyOk P w K mg base N qual (defScope st) f k (defBody st) ps.length g) :
    FnOk P w K mg base (L2.CX P w) (k + 1) f fd ps (spIO mg ps.length (fnIO N.length ps.length g)) := by
  refine F.okX S (fun vs H Q E ⟨F, ws, _, hl, r, _⟩ => by rw [r.length]; exact hl) (fun cdv A outer s H vs Q E hr ⟨F, ws, gg, hl, r, c, nF, hF, p⟩ => ?_)
  have hv : vs.length = ps.length := by rw [r.length]; exact hl
  refine ⟨_, hb cdv A outer s H E hr xe_takes (passes_of rfl), ⟨H, F, gg, vs⟩, F, startS N.length ws, [], [], ?_, hv, ?_⟩
  · refine sr_start ?_ r c nF hF
    have := congrArg List.length S.pre
    rw [List.length_take] at this
    omega
  · unfold fnIO at p
    cases q : g (startS N.length ws) with
    | nx ρ => rw [q] at p; exact fun σ' F' H' s => p .non F' H' (by rw [← hv]; exact (s.push (.refl s.FH) (.of .non)).takeP rfl)
    | ret v ρ => rw [q] at p; exact fun u σ' F' H' s => p u F' H' (by rw [← hv]; exact s.takeP rfl)
    | err cc pl ρ => rw [q] at p; exact fun C d σ' F' H' e s r => p C d F' H' e (by rw [← hv]; exact s.takeP rfl) r
    | brk ρ => rw [q] at p; exact p.elim
    | ct ρ => rw [q] at p; exact p.elim
    | bad => rw [q] at p; exact p.elim
end

/-! ### calls of defs that change nothing -/
mutual
theorem frz_noOwn : ∀ {w : Val}, noOwn w = true → frz w = w
  | .non, _ => rfl
  | .bl _, _ => rfl
  | .int _, _ => rfl
  | .str _, _ => rfl
  | .tup ws, h => by simp only [frz]; rw [frzs_noOwns (by simpa [noOwn] using h)]
  | .tpz ws, h => by simp only [frz]; rw [frzs_noOwns (by simpa [noOwn] using h)]
  | .lst false ws, h => by simp only [frz]; rw [frzs_noOwns (by simpa [noOwn] using h)]
  | .lst true ws, h => by simp [noOwn] at h
  | .dT false ks ws, h => by simp only [frz]; rw [frzs_noOwns (by simpa [noOwn] using h)]
  | .dT true ks ws, h => by simp [noOwn] at h
  | .dK false ks ws, h => by simp only [frz]; rw [frzs_noOwns (by simpa [noOwn] using h)]
  | .dK true ks ws, h => by simp [noOwn] at h
  | .obj _ _ _, _ => rfl
  | .scr _ _, _ => rfl
theorem frzs_noOwns : ∀ {ws : List Val}, noOwns ws = true → frzs ws = ws
  | [], _ => rfl
  | w :: ws, h => by
    simp only [noOwns, Bool.and_eq_true] at h
    simp only [frzs]
    rw [frz_noOwn h.1, frzs_noOwns h.2]
end
theorem frzs_length : ∀ ws : List Val, (frzs ws).length = ws.length
  | [] => rfl
  | w :: ws => by simp [frzs, frzs_length ws]
/-- behind a call that only looked: what was shared for it alone is the owner's again -/
theorem lend {F H F' H' : Hp} {us : List V} {ws : List Val} {g : List Addr} (hF : Le F H) (r : Reps F H us ws g) (x : Ext (join F H g) H F' H') (ow : noOwns ws = true ∨ True) :
    ∃ F'', Ext F H F'' H' ∧ (∀ {u : V} {w : Val}, noOwns ws = true ∨ noSh w = true → Nw F' H H' u w → Nw F'' H H' u w) ∧ (∀ {v : V} {w : Val}, noOwns ws = true ∨ noSh w = true → Rep F' H' v w [] → Rep F'' H' v w []) := by
  by_cases n : noOwns ws = true
  · have := r.nofp n
    subst this
    have e : join F H [] = F := by funext a; simp [join]
    rw [e] at x
    exact ⟨F', x, fun _ h => h, fun _ h => h⟩
  · refine ⟨fun a => match F' a with
      | some (.tup xs) => some (.tup xs)
      | _ => F a, ⟨x.leH, fun a o e => ?_, fun a o e => ?_, fun a h => ?_⟩, fun h ⟨gg, ru, c, k⟩ => ?_, fun h ru => ?_⟩
    · have e' := x.leF a o (join_le hF a o e)
      try dsimp only
      rw [e']
      cases o <;> first | rfl | exact e
    ·
      try dsimp only at e
      split at e
      · rename_i xs q; cases e; exact x.FH a _ q
      · exact x.leH a o (hF a o e)
    ·
      try dsimp only at h
      split at h
      · rename_i xs q
        rcases x.new a (by rw [q]; simp) with z | z | ⟨ys, z⟩
        · by_cases m : a ∈ g
          · exfalso
            rw [join_mem m] at z
            have e2 : F' a = H a := by
              cases q2 : H a with
              | none => exact absurd q2 z
              | some o => exact x.leF a o (by rw [join_mem m, q2])
            exact r.notup a m xs (by rw [← e2, q])
          · rw [join_not m] at z; exact .inl z
        · exact .inr (.inl z)
        · refine .inr (.inr ⟨ys, ?_⟩)
          first | (dsimp only; rw [z]) | exact q.symm.trans z
      · exact .inl h
    · rcases h with h | h
      · exact absurd h n
      · refine ⟨gg, ru.unsh (fun a xs e => by first | (dsimp only; rw [e]) | rw [e]) h, c, fun a ha => ⟨(k a ha).1, ?_⟩⟩
        try dsimp only
        rw [(k a ha).2]
        show F a = none
        cases q : F a with
        | none => rfl
        | some o => have := hF a o q; rw [(k a ha).1] at this; cases this
    · rcases h with h | h
      · exact absurd h n
      · exact ru.unsh (fun a xs e => by first | (dsimp only; rw [e]) | rw [e]) h
def callP (m : List Val → R0) (ws : List Val) : Option Val := if noObjs ws = true then (match m (frzs ws) with
  | .ok w => if noOwns ws || noSh w then some w else none
  | _ => none) else none
def plSh (ws : List Val) (pl : Option (Str × Val)) : Bool := noOwns ws || (match pl with
  | none => true
  | some (_, w) => noSh w)
def mCall (m : List Val → R0) (fs : M (List Val)) : M Val := fun ρ => (fs ρ).bind fun ws ρ1 => if noObjs ws = true then (match m (frzs ws) with
  | .ok w => if (noOwns ws || noSh w) = true then .ok w ρ1 else .bad
  | .err c pl => if plSh ws pl = true then .err c pl ρ1 else .bad
  | .bad => .bad) else .bad
section
variable {X : Cx} {k j : Nat} {W : WX} {e : Expr} {es : List Expr} {f : Addr} {fd : FuncData} {ps : List Str} {m : List Val → R0} {x : Str} {p pos : Pos}
theorem df_call {fs : P (List Val)} (G : FnOk X.prog X.w X.K X.mg X.base (L2.CX X.prog X.w) j f fd ps (spP X.mg ps.length m)) (hr : Room j X.A) (hg : Gl X x) (hm : X.mg x = some (.ref f)) (hk : PySem.W.keepIn X.K (.ref f) = true) (hb : Binds X.K fd ps [])
    (hl : ∀ ρ ws, fs ρ = some ws → ws.length = ps.length) (ha : DPs X (e :: es) fs) (hdb : (x == ("__debug__" : Str)) = false := by decide) (he : starEach (e :: es) X.env = (false, eval e X.env) :: starEach es X.env := by rfl) (hpl : (backTo pos (starEach es X.env)).any (·.1) = false := by rfl) :
    DF X (.Call (.Name x p) (e :: es) [] pos) (pOpS (callP m) fs) := peImp (pe_callS (E := fun _ => E0) G hr hg hm hk hb (fun σ pins H s e s' I c => passL pins σ H s e s' I c) ha hdb he hpl) fun σ H Q ⟨F, ρ, fp, hF, r, w, ew, k⟩ => by
  simp only [pOpS, Option.bind_eq_some_iff] at ew
  obtain ⟨ws, e1, e2⟩ := ew
  refine ⟨F, ρ, fp, hF, r, ws, e1, fun us F1 H1 x1 ⟨g, ra⟩ => ?_⟩
  unfold callP at e2
  split at e2
  case isFalse => cases e2
  case isTrue no =>
  refine ⟨join F1 H1 g, frzs ws, by rw [frzs_length]; exact hl _ _ e1, join_H x1.FH, ra.frz (join_le x1.FH) no fun a ha => join_mem ha, ?_⟩
  cases q : m (frzs ws) with
  | ok w' =>
    rw [q] at e2
    (try dsimp only at e2); (try dsimp only)
    split at e2
    case isFalse => cases e2
    case isTrue hc =>
    cases e2
    intro u F' H' x2 n
    obtain ⟨F'', x3, k1, _⟩ := lend x1.FH ra x2 (.inr trivial)
    exact k u F'' H' (x1.trans x3) ((k1 (by simpa using hc) n).ext x1 x3)
  | err c pl => rw [q] at e2; cases e2
  | bad => rw [q] at e2; cases e2
theorem dv_call {fs : M (List Val)} (G : FnOk X.prog X.w X.K X.mg X.base (L2.CX X.prog X.w) j f fd ps (spP X.mg ps.length m)) (hr : Room j X.A) (tk : Takes X W) (hg : Gl X x) (hm : X.mg x = some (.ref f)) (hk : PySem.W.keepIn X.K (.ref f) = true) (hb : Binds X.K fd ps [])
    (hl : ∀ ρ ws ρ', fs ρ = .ok ws ρ' → ws.length = ps.length) (ha : DVs X k W (e :: es) fs) (hdb : (x == ("__debug__" : Str)) = false := by decide) (he : starEach (e :: es) X.env = (false, eval e X.env) :: starEach es X.env := by rfl) (hpl : (backTo pos (starEach es X.env)).any (·.1) = false := by rfl) :
    DV X k W (.Call (.Name x p) (e :: es) [] pos) (mCall m fs) := peImp (pe_callS (E := WE W) G hr hg hm hk hb (fun σ => passAt tk σ) ha hdb he hpl) fun σ H Q ⟨B, F, ρ, τ, θ, s, hk, p⟩ => by
  refine ⟨B, F, ρ, τ, θ, s, hk, ?_⟩
  unfold mCall at p
  cases qf : fs ρ with
  | bad => rw [qf] at p; exact p.elim
  | err c pl ρ1 => rw [qf] at p; exact p
  | ok ws ρ1 =>
    rw [qf] at p
    simp only [R.bind_ok] at p
    intro us F1 H1 el s1
    obtain ⟨g, ra⟩ := s1.tops el
    split at p
    case isFalse => exact p.elim
    case isTrue no =>
    refine ⟨join F1 H1 g, frzs ws, by rw [frzs_length]; exact hl _ _ _ qf, join_H s1.FH, ra.frz (join_le s1.FH) no fun a ha => join_mem ha, ?_⟩
    cases q : m (frzs ws) with
    | ok w' =>
      rw [q] at p
      (try dsimp only at p); (try dsimp only)
      split at p
      case isFalse => exact p.elim
      case isTrue hc =>
      intro u F' H' x2 n
      obtain ⟨F'', x3, k1, _⟩ := lend s1.FH ra x2 (.inr trivial)
      exact p u F'' H' ((s1.push x3 (k1 (by simpa using hc) n)).under (by simpa using el))
    | err c pl =>
      rw [q] at p
      (try dsimp only at p); (try dsimp only)
      split at p
      case isFalse => exact p.elim
      case isTrue hc =>
      intro C d F' H' eC x2 xr
      obtain ⟨F'', x3, _, k2⟩ := lend s1.FH ra x2 (.inr trivial)
      refine p C d F'' H' eC ((s1.ext x3).popN (by simpa using el)) ?_
      cases pl with
      | none => trivial
      | some z =>
        obtain ⟨dd, v, e1, e2, e3⟩ := xr
        exact ⟨dd, v, e1, e2, k2 (by simpa [plSh] using hc) e3⟩
    | bad => rw [q] at p; exact p.elim
end

/-! ### calls of defs that change what the caller owns -/
inductive Link (σ : St) : List V → List (Nat ⊕ Val) → List V → Prop
  | nil : Link σ [] [] []
  | slot {i : Nat} {v : V} {us ts : List V} {as : List (Nat ⊕ Val)} : σ[i]? = some (some v) → Link σ us as ts → Link σ (v :: us) (.inl i :: as) ts
  | val {u : V} {w : Val} {us ts : List V} {as : List (Nat ⊕ Val)} : Link σ us as ts → Link σ (u :: us) (.inr w :: as) (u :: ts)
def vals : List (Nat ⊕ Val) → List Val
  | [] => []
  | .inl _ :: as => vals as
  | .inr w :: as => w :: vals as
def tA (mg : MG) (k : Nat) (W : WX) (f : M (List (Nat ⊕ Val))) : TA := fun σ H Q => ∃ B F ρ τ θ, SR B F H σ ρ τ θ ∧ B.S0.length = k ∧
  Post mg W B σ τ θ (f ρ) fun as ρ' => ∀ us ts F' H', Link σ us as ts → ts.length = (vals as).length → SR B F' H' σ ρ' (ts.map some ++ τ) ((vals as).map some ++ θ) → Q us H'
abbrev DA (X : Cx) (k : Nat) (W : WX) (es : List Expr) (f : M (List (Nat ⊕ Val))) : Prop := PA X es (tA X.mg k W f)
def aNil : M (List (Nat ⊕ Val)) := fun ρ => .ok [] ρ
def aSlot (i : Nat) (fs : M (List (Nat ⊕ Val))) : M (List (Nat ⊕ Val)) := fun ρ => match (ρ[i]?).join with
  | none => .bad
  | some _ => (fs ρ).bind fun as ρ1 => .ok (.inl i :: as) ρ1
def aVal (f : M Val) (fs : M (List (Nat ⊕ Val))) : M (List (Nat ⊕ Val)) := fun ρ => (f ρ).bind fun w ρ1 => (fs ρ1).bind fun as ρ2 => .ok (.inr w :: as) ρ2
section
variable {X : Cx} {k j : Nat} {W : WX} {e : Expr} {es : List Expr} {fs : M (List (Nat ⊕ Val))} {pos : Pos}
theorem da_nil : DA X k W [] aNil := paImp pa_nil fun σ H Q ⟨B, F, ρ, τ, θ, s, hk, p⟩ => p [] [] F H .nil rfl s
theorem da_val {f : M Val} (h1 : DV X k W e f) (h2 : DA X k W es fs) (hs : starEach (e :: es) X.env = (false, eval e X.env) :: starEach es X.env := by rfl) : DA X k W (e :: es) (aVal f fs) := paImp (pa_cons h1 h2 hs) fun σ H Q ⟨B, F, ρ, τ, θ, s, hk, p⟩ => by
  refine ⟨B, F, ρ, τ, θ, s, hk, (Post.bind p).imp fun w ρ1 p1 u F1 H1 s1 => ?_⟩
  refine ⟨B, F1, ρ1, _, _, s1, hk, (Post.bind p1).deep.imp fun as ρ2 p2 us ts F2 H2 lk el s2 => ?_⟩
  exact p2 (u :: us) (u :: ts) F2 H2 (.val lk) (by simp [vals, el]) (s2.torot (by simpa using el))
theorem da_slot (i : Nat) {x : Str} {px : Pos} (h2 : DA X k W es fs) (hN : X.N[i]? = some x := by rfl) (hv : Vis X.env.scope x := by first | exact Or.inl rfl | exact Or.inr (Or.inl rfl) | exact Or.inr (Or.inr rfl)) (hd : (x == ("__debug__" : Str)) = false := by decide)
    (hcd : (x == ("__classdict__" : Str)) = false := by decide) (hs : starEach (.Name x px :: es) X.env = (false, eval (.Name x px) X.env) :: starEach es X.env := by rfl) : DA X k W (.Name x px :: es) (aSlot i fs) := paImp (pa_cons (pe_var hN hv hd hcd) h2 hs) fun σ H Q ⟨B, F, ρ, τ, θ, s, hk, p⟩ => by
  unfold aSlot at p
  cases q : (ρ[i]?).join with
  | none => rw [q] at p; exact p.elim
  | some w =>
    rw [q] at p
    obtain ⟨v, ev, _⟩ := s.get (join_some q)
    exact ⟨v, ev, B, F, ρ, τ, θ, s, hk, (Post.bind p).imp fun as ρ1 p1 us ts F1 H1 lk el s1 => p1 (v :: us) ts F1 H1 (.slot ev lk) el s1⟩
def gatherA : List (Nat ⊕ Val) → Slots → Option (List Val × Slots)
  | [], ρ => some ([], ρ)
  | .inl i :: as, ρ => match (ρ[i]?).join with
    | some w => (gatherA as (ρ.set i none)).map fun q => (w :: q.1, q.2)
    | none => none
  | .inr w :: as, ρ => (gatherA as ρ).map fun q => (w :: q.1, q.2)
def backA : List (Nat ⊕ Val) → Slots → Slots → Slots
  | .inl i :: as, o :: os, ρ => backA as os (ρ.set i o)
  | .inr _ :: as, _ :: os, ρ => backA as os ρ
  | _, _, ρ => ρ
theorem SR.gatherA {B : Base} {F H : Hp} {σ : St} : ∀ {as : List (Nat ⊕ Val)} {us ts : List V} {ρ ρ' : Slots} {ws : List Val} {τ : List (Option V)} {θ : Slots}, Link σ us as ts → ts.length = (vals as).length → SR B F H σ ρ (ts.map some ++ τ) ((vals as).map some ++ θ) → DL.gatherA as ρ = some (ws, ρ') →
    us.length = ws.length ∧ SR B F H σ ρ' (us.map some ++ τ) (ws.map some ++ θ)
  | [], _, _, ρ, ρ', ws, τ, θ, lk, el, s, e => by cases lk; cases e; exact ⟨rfl, s⟩
  | .inl i :: as, _, _, ρ, ρ', ws, τ, θ, lk, el, s, e => by
    cases lk with
    | @slot _ v us ts _ ev lk =>
      unfold DL.gatherA at e
      cases q : (ρ[i]?).join with
      | none => rw [q] at e; cases e
      | some w =>
        rw [q] at e
        simp only [Option.map_eq_some_iff] at e
        obtain ⟨⟨ws', ρ1⟩, e1, e2⟩ := e
        cases e2
        obtain ⟨v', ev', s1⟩ := s.move (join_some q)
        have : v' = v := by rw [ev] at ev'; cases ev'; rfl
        subst this
        have s2 := s1.rot (by simpa [vals] using el)
        obtain ⟨l, s3⟩ := SR.gatherA lk el s2 e1
        exact ⟨by simp [l], s3.torot (by simpa using l)⟩
  | .inr w :: as, _, _, ρ, ρ', ws, τ, θ, lk, el, s, e => by
    cases lk with
    | @val u _ us ts _ lk =>
      unfold DL.gatherA at e
      simp only [Option.map_eq_some_iff] at e
      obtain ⟨⟨ws', ρ1⟩, e1, e2⟩ := e
      cases e2
      have el' : ts.length = (vals as).length := by simpa [vals] using el
      have s2 := SR.rot (ts := ts.map some) (vs := (vals as).map some) (by simpa using el') s
      obtain ⟨l, s3⟩ := SR.gatherA lk el' s2 e1
      exact ⟨by simp [l], s3.torot (by simpa using l)⟩
/-- a root goes back into the slot that it stands in -/
theorem SR.unmove {B : Base} {F H : Hp} {σ : St} {ρ : Slots} {τ : List (Option V)} {θ : Slots} {v : V} {o : Option Val} {i : Nat} (s : SR B F H σ ρ (some v :: τ) (o :: θ)) (ev : σ[i]? = some (some v)) : SR B F H σ (ρ.set i o) τ θ := by
  have es : σ.set i (some v) = σ := by
    apply List.ext_getElem?
    intro j
    rw [List.getElem?_set]
    split
    · rename_i e; subst e
      split
      · exact ev.symm
      · rename_i h2; rw [List.getElem?_eq_none (by omega)]
    · rfl
  obtain ⟨f1, f2, s1, t, c, ow, FH, F0, keep, dom, new, pin⟩ := s
  cases t with
  | dead t =>
    obtain ⟨f', r', c'⟩ := RepL.kill (v := some v) i s1
    rw [es] at r'
    exact ⟨f', f2, r', t, fun a => by have := c a; have := c' a; omega, fun a ha => ow a (by have := c' a; omega), FH, F0, keep, dom, new, pin⟩
  | @live _ _ _ _ g f h1 t =>
    obtain ⟨f', r', c'⟩ := RepL.set h1 i s1
    rw [es] at r'
    exact ⟨f', f, r', t, fun a => by have := c a; have := c' a; rw [List.count_append] at *; omega, fun a ha => ow a (by have := c' a; rw [List.count_append]; omega), FH, F0, keep, dom, new, pin⟩
theorem SR.backA {B : Base} {F H : Hp} {σ : St} : ∀ {as : List (Nat ⊕ Val)} {us ts : List V} {outs ρ : Slots} {τ : List (Option V)} {θ : Slots}, Link σ us as ts → outs.length = us.length → SR B F H σ ρ (us.map some ++ τ) (outs ++ θ) → SR B F H σ (DL.backA as outs ρ) τ θ
  | [], _, _, outs, ρ, τ, θ, lk, el, s => by
    cases lk
    cases outs with
    | nil => exact s
    | cons _ _ => simp at el
  | .inl i :: as, _, _, outs, ρ, τ, θ, lk, el, s => by
    cases lk with
    | @slot _ v us ts _ ev lk =>
      cases outs with
      | nil => simp at el
      | cons o os =>
        show SR B F H σ (DL.backA as os (ρ.set i o)) τ θ
        exact SR.backA lk (by simpa using el) (SR.unmove s ev)
  | .inr w :: as, _, _, outs, ρ, τ, θ, lk, el, s => by
    cases lk with
    | @val u _ us ts _ lk =>
      cases outs with
      | nil => simp at el
      | cons o os =>
        show SR B F H σ (DL.backA as os ρ) τ θ
        exact SR.backA lk (by simpa using el) (SR.pop s)
/-- behind a call: the caller's state again -/
theorem SR.called {B : Base} {F H F' H' : Hp} {σ : St} {ρ : Slots} {us : List V} {ws : List Val} {τ τ2 : List (Option V)} {θ θ2 outs : Slots} {f1 g f : List Addr} (sf : SRf B F H σ ρ (us.map some ++ τ) (ws.map some ++ θ) f1 (g ++ f)) (rf : RepL F H τ θ f)
    (s : SR ⟨H, F, g, us⟩ F' H' (us.map some) outs τ2 θ2) : SR B F' H' σ ρ (τ2 ++ (us.map some ++ τ)) (θ2 ++ (outs ++ θ)) := by
  obtain ⟨f1', f2', s'⟩ := s
  have old : ∀ a, 0 < f1.count a + f.count a → a ∉ g ∧ H' a = H a ∧ F' a = none ∧ f1'.count a + f2'.count a = 0 := fun a ha => by
    have hc := sf.le1 a
    rw [List.count_append] at hc
    have ng : a ∉ g := fun z => by have := count_of_mem z; omega
    have hd : H a ≠ none := sf.domOwn (by rw [List.count_append]; omega)
    have hF := (sf.own a (by rw [List.count_append]; omega)).1
    have e1 : H' a = H a := by
      cases q : H a with
      | none => exact absurd q hd
      | some o => exact s'.keep a o q ng
    have e2 : F' a = none := by
      cases q : F' a with
      | none => rfl
      | some o =>
        rcases s'.new a (by rw [q]; simp) with z | z | z | ⟨ys, z⟩
        · exact absurd hF z
        · exact absurd z hd
        · exact absurd z ng
        · have h3 := s'.FH a _ z
          rw [e1] at h3
          exact absurd h3 (sf.notup (by rw [List.count_append]; omega) ys)
    refine ⟨ng, e1, e2, ?_⟩
    by_cases z : 0 < f1'.count a + f2'.count a
    · rcases (s'.own a z).2 with y | y
      · exact absurd y ng
      · exact absurd y hd
    · omega
  refine ⟨f1, f2' ++ (f1' ++ f), sf.s.mono s'.F0 fun a ha => (old a (by have := count_of_mem ha; omega)).2.1, s'.t.append (s'.s.append (rf.mono s'.F0 fun a ha => (old a (by have := count_of_mem ha; omega)).2.1)), fun a => ?_, fun a ha => ?_, s'.FH, sf.F0.trans s'.F0, fun a o h1 h2 => ?_, fun a h => sf.dom a (s'.dom a h), fun a h => ?_, sf.pin⟩
  · simp only [List.count_append]
    have hc := sf.le1 a
    have hc' := s'.le1 a
    rw [List.count_append] at hc
    by_cases z : 0 < f1.count a + f.count a
    · have := (old a z).2.2.2; omega
    · omega
  · simp only [List.count_append] at ha
    by_cases z : 0 < f1.count a + f.count a
    · exact ⟨(old a z).2.2.1, (sf.own a (by rw [List.count_append]; omega)).2⟩
    · obtain ⟨y1, y2⟩ := s'.own a (by omega)
      refine ⟨y1, ?_⟩
      rcases y2 with y | y
      · have y' : a ∈ g := y
        exact (sf.own a (by rw [List.count_append]; have := count_of_mem y'; omega)).2
      · exact .inr (sf.dom a y)
  · have ng : a ∉ g := fun z => by
      rcases (sf.own a (by rw [List.count_append]; have := count_of_mem z; omega)).2 with y | y
      · exact h2 y
      · rw [h1] at y; cases y
    exact s'.keep a o (sf.keep a o h1 h2) ng
  · rcases s'.new a h with z | z | z | z
    · rcases sf.new a z with y | y | y | ⟨ys, y⟩
      · exact .inl y
      · exact .inr (.inl y)
      · exact .inr (.inr (.inl y))
      · exact .inr (.inr (.inr ⟨ys, s'.F0 a _ y⟩))
    · exact .inr (.inl (sf.dom a z))
    · have z' : a ∈ g := z
      rcases (sf.own a (by rw [List.count_append]; have := count_of_mem z'; omega)).2 with y | y
      · exact .inr (.inr (.inl y))
      · exact .inr (.inl y)
    · exact .inr (.inr (.inr z))
def callIO (m : List Val → R1) (as : List (Nat ⊕ Val)) (ρ1 : Slots) : R Val := match gatherA as ρ1 with
  | none => .bad
  | some (ws, ρ2) => match m ws with
    | .ok w outs => if outs.length = ws.length then .ok w (backA as outs ρ2) else .bad
    | .err c pl outs => if outs.length = ws.length then .err c pl (backA as outs ρ2) else .bad
    | .bad => .bad
def mCallIO (m : List Val → R1) (fs : M (List (Nat ⊕ Val))) : M Val := fun ρ => (fs ρ).bind (callIO m)
theorem link_len {σ : St} : ∀ {us ts : List V} {as : List (Nat ⊕ Val)}, Link σ us as ts → us.length = as.length
  | _, _, _, .nil => rfl
  | _, _, _, .slot _ l => by simp [link_len l]
  | _, _, _, .val l => by simp [link_len l]
theorem dv_callIO {f : Addr} {fd : FuncData} {ps : List Str} {m : List Val → R1} {x : Str} {p : Pos} (G : FnOk X.prog X.w X.K X.mg X.base (L2.CX X.prog X.w) j f fd ps (spIO X.mg ps.length m)) (hr : Room j X.A) (tk : Takes X W) (hg : Gl X x) (hm : X.mg x = some (.ref f)) (hk : PySem.W.keepIn X.K (.ref f) = true) (hb : Binds X.K fd ps [])
    (hl : (e :: es).length = ps.length) (hla : ∀ ρ as ρ', fs ρ = .ok as ρ' → as.length = (e :: es).length) (ha : DA X k W (e :: es) fs) (hdb : (x == ("__debug__" : Str)) = false := by decide) (he : starEach (e :: es) X.env = (false, eval e X.env) :: starEach es X.env := by rfl) (hpl : (backTo pos (starEach es X.env)).any (·.1) = false := by rfl) :
    DV X k W (.Call (.Name x p) (e :: es) [] pos) (mCallIO m fs) := peImp (pe_callS (E := WE W) G hr hg hm hk hb (fun σ => passAt tk σ) ha hdb he hpl) fun σ H Q ⟨B, F, ρ, τ, θ, s, hk, p⟩ => by
  refine ⟨B, F, ρ, τ, θ, s, hk, ?_⟩
  unfold mCallIO at p
  cases qf : fs ρ with
  | bad => rw [qf] at p; exact p.elim
  | err c pl ρ1 => rw [qf] at p; exact p
  | ok as ρ1 =>
    rw [qf] at p
    simp only [R.bind_ok] at p
    intro us ts F1 H1 lk el s1
    unfold callIO at p
    cases qg : gatherA as ρ1 with
    | none => rw [qg] at p; exact p.elim
    | some z =>
      obtain ⟨ws, ρ2⟩ := z
      rw [qg] at p
      dsimp only at p
      obtain ⟨lw, s2⟩ := SR.gatherA lk el s1 qg
      obtain ⟨f1, f2, sf⟩ := s2
      obtain ⟨g, f, hg1, hg2, eg⟩ := RepL.split (by simpa using lw) sf.t
      subst eg
      have cle : ∀ a, g.count a ≤ 1 := fun a => by have := sf.le1 a; rw [List.count_append] at this; omega
      have nF : ∀ a ∈ g, F1 a = none := fun a ha => (sf.own a (by rw [List.count_append]; have := count_of_mem ha; omega)).1
      refine ⟨F1, ws, g, by rw [← lw, link_len lk, hla _ _ _ qf]; exact hl, hg1.reps, cle, nF, sf.FH, ?_⟩
      cases q : m ws with
      | ok w outs =>
        rw [q] at p
        (try dsimp only at p); (try dsimp only)
        split at p
        case isFalse => exact p.elim
        case isTrue ho =>
        intro u F' H' s3
        have s4 := SR.called sf hg2 s3
        have s5 := s4.rot (ts := us.map some) (vs := outs) (by simp [lw, ho])
        exact p u F' H' (SR.backA lk (by rw [ho, lw]) s5)
      | err c pl outs =>
        rw [q] at p
        (try dsimp only at p); (try dsimp only)
        split at p
        case isFalse => exact p.elim
        case isTrue ho =>
        intro C d F' H' eC s3 xr
        have s4 := SR.called sf hg2 s3
        exact p C d F' H' eC (SR.backA lk (by rw [ho, lw]) s4) xr
      | bad => rw [q] at p; exact p.elim
end
end L2.DL

namespace L2.DL
open L2 PyProof.Rows PySem.Spec PySem

/-! ### operators by the kinds of their operands -/
theorem opOr {X : Cx} {f : Value → Value → Sem Value} {r r' : R2} (h : OpR X f r) (h' : OpR X f r') : OpR X f (fun x y H Q => r x y H Q ∨ r' x y H Q) := fun pins s σ H x y v u Q I rx ry q =>
  q.elim (h pins s σ H x y v u Q I rx ry) (h' pins s σ H x y v u Q I rx ry)
theorem Pk.lst {F H : Hp} {u : V} {o : Bool} {ws : List Val} (hF : Le F H) (h : Pk F H u (.lst o ws)) : ∃ a xs, u = .ref a ∧ H a = some (.lst xs) ∧ PkS F H xs ws := by
  obtain ⟨g, r⟩ := h
  cases r with
  | lsh h1 h2 => exact ⟨_, _, rfl, hF _ _ h1, _, h2⟩
  | low h1 h2 => exact ⟨_, _, rfl, h1, _, h2⟩
theorem Pk.tup {F H : Hp} {u : V} {ws : List Val} (h : Pk F H u (.tup ws)) : ∃ a xs, u = .ref a ∧ F a = some (.tup xs) ∧ PkS F H xs ws := by
  obtain ⟨g, r⟩ := h
  cases r with
  | tup h1 h2 => exact ⟨_, _, rfl, h1, _, h2⟩
theorem Pk.tpz {F H : Hp} {u : V} {ws : List Val} (h : Pk F H u (.tpz ws)) : ∃ a ob xs, u = .ref a ∧ F a = some (.frz ob (.tup xs)) ∧ (ob.cls = .type "tuple" ∧ ob.dict = none) ∧ PkS F H xs ws := by
  obtain ⟨g, r⟩ := h
  cases r with
  | tpz h1 h0 h2 => exact ⟨_, _, _, rfl, h1, h0, _, h2⟩
theorem PkS.len {F H : Hp} {us : List V} {ws : List Val} (h : PkS F H us ws) : us.length = ws.length := let ⟨_, r⟩ := h; r.length
theorem PkS.no {F H : Hp} {us : List V} {ws : List Val} (h : PkS F H us ws) (n : noOwns ws = true) : Reps F H us ws [] := by
  obtain ⟨g, r⟩ := h
  have := r.nofp n
  subst this; exact r
theorem fresh_F {F H : Hp} {p : Addr} (hF : Le F H) (np : H p = none) : F p = none := by
  cases q : F p with
  | none => rfl
  | some z => rw [hF p z q] at np; cases np
/-- a new list, a new tuple of things that nobody owns -/
theorem Nw.lst {F H : Hp} {us : List V} {ws : List Val} {p : Addr} (hF : Le F H) (np : H p = none) (r : Reps F H us ws []) : Ext F H F (L2.upd H p (.lst us)) ∧ Nw F H (L2.upd H p (.lst us)) (.ref p) (.lst true ws) := by
  have x := (Ext.laid (o := .lst us) hF np).1
  refine ⟨x, [p], .low upd_same (r.ext x), fun a => ?_, fun a ha => ?_⟩
  · rw [List.count_cons, List.count_nil]; split <;> omega
  · have : a = p := by simpa using ha
    subst this
    exact ⟨np, fresh_F hF np⟩
theorem Nw.tup {F H : Hp} {us : List V} {ws : List Val} {p : Addr} (hF : Le F H) (np : H p = none) (r : Reps F H us ws []) : Ext F H (L2.upd F p (.tup us)) (L2.upd H p (.tup us)) ∧ Nw (L2.upd F p (.tup us)) H (L2.upd H p (.tup us)) (.ref p) (.tup ws) := by
  have x := (Ext.laid (o := .tup us) hF np).2
  exact ⟨x, .of (.tup upd_same (r.ext x))⟩
/-- ints -/
def oInt (h : Int → Int → Val) : Val → Val → Option Val
  | .int i, .int j => some (h i j)
  | _, _ => none
def oIntC (c : Int → Int → Bool) (h : Int → Int → Val) : Val → Val → Option Val
  | .int i, .int j => if c i j = true then some (h i j) else none
  | _, _ => none
theorem vop_int0 {g : Int → Int → V} {h : Int → Int → Val} (r : ∀ i j F H, Rep F H (g i j) (h i j) []) : VOp2 (rI0 g) (oInt h) := fun F H x y wx wy w Q hF px py e k => by
  cases wx <;> cases wy <;> simp [oInt] at e
  subst e
  have := px.int; subst this
  have := py.int; subst this
  exact ⟨_, _, rfl, rfl, k _ F H (.refl hF) (.of (r _ _ F H))⟩
theorem vop_intC {C : Int → Int → Prop} {c : Int → Int → Bool} {g : Int → Int → V} {h : Int → Int → Val} (hc : ∀ i j, c i j = true → C i j) (r : ∀ i j F H, Rep F H (g i j) (h i j) []) : VOp2 (rI C g) (oIntC c h) := fun F H x y wx wy w Q hF px py e k => by
  cases wx <;> cases wy <;> simp [oIntC] at e
  obtain ⟨e1, e2⟩ := e
  subst e2
  have := px.int; subst this
  have := py.int; subst this
  exact ⟨_, _, rfl, rfl, hc _ _ e1, k _ F H (.refl hF) (.of (r _ _ F H))⟩
def oAdd : Val → Val → Option Val
  | .int i, .int j => some (.int (i + j))
  | .str a, .str b => if a.length + b.length ≤ sizeLine then some (.str (a ++ b)) else none
  | .lst _ xs, .lst _ ys => if (noOwns xs && noOwns ys) = true ∧ xs.length + ys.length ≤ sizeLine then some (.lst true (xs ++ ys)) else none
  | .tup xs, .tup ys => if (noOwns xs && noOwns ys) = true ∧ xs.length + ys.length ≤ sizeLine then some (.tup (xs ++ ys)) else none
  | _, _ => none
def rAddAll (K : PySem.W.Frag) : R2 := fun x y H Q => (rI0 fun i j => .int (i + j)) x y H Q ∨ (∃ i j, x = .str i ∧ y = .str j ∧ i.length + j.length ≤ sizeLine ∧ Q (.str (i ++ j)) H) ∨ rCat x y H Q ∨ rCatA K x y H Q
theorem op_addAll {X : Cx} : OpR X (binaryOp .Add) (rAddAll X.K) := opOr op_add (opOr op_add_str (opOr op_cat op_catA))
theorem vop_add {K : PySem.W.Frag} : VOp2 (rAddAll K) oAdd := fun F H x y wx wy w Q hF px py e k => by
  cases wx <;> cases wy <;> simp only [oAdd] at e <;> try (cases e; done)
  · cases e
    have := px.int; subst this
    have := py.int; subst this
    exact .inl ⟨_, _, rfl, rfl, k _ F H (.refl hF) (.of (.int _))⟩
  · split at e
    case isFalse => cases e
    case isTrue h =>
    cases e
    have := px.str; subst this
    have := py.str; subst this
    exact .inr (.inl ⟨_, _, rfl, rfl, h, k _ F H (.refl hF) (.of (.str _))⟩)
  · rename_i xs ys
    split at e
    case isFalse => cases e
    case isTrue h =>
    cases e
    obtain ⟨h1, h2⟩ := h
    simp only [Bool.and_eq_true] at h1
    obtain ⟨a, us, rfl, ha, pu⟩ := px.tup
    obtain ⟨b, vs, rfl, hb, pv⟩ := py.tup
    have ru := pu.no h1.1
    have rv := pv.no h1.2
    refine .inr (.inr (.inr ⟨a, b, us, vs, rfl, rfl, .of (hF _ _ ha), .of (hF _ _ hb), by rw [pu.len, pv.len]; exact h2, fun eu => ?_, fun eu ev => ?_, fun eu ev p np => ?_⟩))
    · subst eu
      have : xs = [] := List.length_eq_zero_iff.mp (by have := pu.len; simpa using this.symm)
      subst this
      exact k _ F H (.refl hF) (.of (.tup hb rv))
    · subst ev
      have : ys = [] := List.length_eq_zero_iff.mp (by have := pv.len; simpa using this.symm)
      subst this
      rw [List.append_nil] at k
      exact k _ F H (.refl hF) (.of (.tup ha ru))
    · obtain ⟨x1, n⟩ := Nw.tup hF np (ru.append rv)
      exact k _ _ _ x1 n
  · split at e
    case isFalse => cases e
    case isTrue h =>
    cases e
    obtain ⟨h1, h2⟩ := h
    simp only [Bool.and_eq_true] at h1
    obtain ⟨a, us, rfl, ha, pu⟩ := px.lst hF
    obtain ⟨b, vs, rfl, hb, pv⟩ := py.lst hF
    have ru := pu.no h1.1
    have rv := pv.no h1.2
    refine .inr (.inr (.inl ⟨a, b, us, vs, rfl, rfl, ha, hb, by rw [pu.len, pv.len]; exact h2, fun p np => ?_⟩))
    obtain ⟨x1, n⟩ := Nw.lst hF np (ru.append rv)
    exact k _ _ _ x1 n
def oSub := oInt fun i j => .int (i - j)
theorem vop_sub : VOp2 (rI0 fun i j => .int (i - j)) oSub := vop_int0 fun _ _ _ _ => .int _
def cMul (i j : Int) : Bool := ltA i (2 ^ 64) || ltA j (2 ^ 64)
def oMul := oIntC cMul fun i j => .int (i * j)
theorem vop_mul : VOp2 (rI CMul fun i j => .int (i * j)) oMul := vop_intC (fun i j h => by
  simp only [cMul, Bool.or_eq_true, ltA_iff] at h
  unfold CMul
  omega) fun _ _ _ _ => .int _
def cMulW (i j : Int) : Bool := decide (i.natAbs.log2 + j.natAbs.log2 < 1000000)
def oMulW := oIntC cMulW fun i j => .int (i * j)
theorem vop_mulW : VOp2 (rI CMulW fun i j => .int (i * j)) oMulW := vop_intC (fun i j h => by simpa [cMulW, CMulW] using h) fun _ _ _ _ => .int _
def cDiv (_ j : Int) : Bool := decide (0 < j) && ltA j 18446744073709551616
def oDiv := oIntC cDiv fun i j => .int (i / j)
theorem vop_div : VOp2 (rI CDivW fun i j => .int (i / j)) oDiv := vop_intC (fun i j h => by
  simp only [cDiv, Bool.and_eq_true, ltA_iff, decide_eq_true_eq] at h
  exact wide_div (b := 64) h.1 (by omega) (by decide) (by decide)) fun _ _ _ _ => .int _
def oMod := oIntC (fun _ j => decide (0 < j)) fun i j => .int (i % j)
theorem vop_mod : VOp2 (rI (fun _ j => 0 < j) fun i j => .int (i % j)) oMod := vop_intC (fun i j h => by simpa using h) fun _ _ _ _ => .int _
def cPow (i j : Int) : Bool := decide (0 ≤ j) && ltA j 1000001 && ltA i (2 ^ 64)
def oPow := oIntC cPow fun i j => .int (i ^ j.toNat)
theorem vop_pow : VOp2 (rI CPow fun i j => .int (i ^ j.toNat)) oPow := vop_intC (fun i j h => by
  simp only [cPow, Bool.and_eq_true, ltA_iff, decide_eq_true_eq] at h
  unfold CPow
  omega) fun _ _ _ _ => .int _
def oShr := oIntC (fun _ j => decide (0 ≤ j)) fun i j => .int (i / 2 ^ j.toNat)
theorem vop_shr : VOp2 (rI (fun _ j => 0 ≤ j) fun i j => .int (i / 2 ^ j.toNat)) oShr := vop_intC (fun i j h => by simpa using h) fun _ _ _ _ => .int _
def oNeg : Val → Option Val
  | .int i => some (.int (-i))
  | _ => none
theorem vop_neg : VOp1 (rU fun i => .int (-i)) oNeg := fun F H x wx w Q hF px e k => by
  cases wx <;> simp [oNeg] at e
  subst e
  have := px.int; subst this
  exact ⟨_, rfl, k _ F H (.refl hF) (.of (.int _))⟩

/-! ### order -/
def oCmp (h : Int → Int → Bool) (g : List Nat → List Nat → Bool) : Val → Val → Option Val
  | .int i, .int j => some (.bl (h i j))
  | .str a, .str b => some (.bl (g a.cps.toList b.cps.toList))
  | _, _ => none
def rCmp (h : Int → Int → Bool) (g : List Nat → List Nat → Bool) : R2 := fun x y H Q => (rI0 fun i j => .bl (h i j)) x y H Q ∨ ∃ i j, x = .str i ∧ y = .str j ∧ Q (.bl (g i.cps.toList j.cps.toList)) H
theorem vop_cmp {h : Int → Int → Bool} {g : List Nat → List Nat → Bool} : VOp2 (rCmp h g) (oCmp h g) := fun F H x y wx wy w Q hF px py e k => by
  cases wx <;> cases wy <;> simp [oCmp] at e
  · subst e
    have := px.int; subst this
    have := py.int; subst this
    exact .inl ⟨_, _, rfl, rfl, k _ F H (.refl hF) (.of (.bl _))⟩
  · subst e
    have := px.str; subst this
    have := py.str; subst this
    exact .inr ⟨_, _, rfl, rfl, k _ F H (.refl hF) (.of (.bl _))⟩
def oLt := oCmp (fun i j => decide (i < j)) fun a b => decide (a < b)
def oLe := oCmp (fun i j => decide (i ≤ j)) fun a b => !decide (b < a)
def oGt := oCmp (fun i j => decide (j < i)) fun a b => decide (b < a)
def oGe := oCmp (fun i j => decide (j ≤ i)) fun a b => !decide (a < b)
section
variable {X : Cx}
theorem op_ltA : OpR X (compareOp .Lt) (rCmp (fun i j => decide (i < j)) fun a b => decide (a < b)) := opOr op_lt op_lt_str
theorem op_leA : OpR X (compareOp .LtE) (rCmp (fun i j => decide (i ≤ j)) fun a b => !decide (b < a)) := opOr op_le op_le_str
theorem op_gtA : OpR X (compareOp .Gt) (rCmp (fun i j => decide (j < i)) fun a b => decide (b < a)) := opOr op_gt op_gt_str
theorem op_geA : OpR X (compareOp .GtE) (rCmp (fun i j => decide (j ≤ i)) fun a b => !decide (a < b)) := opOr op_ge op_ge_str
end

/-! ### equality -/
def eqB (a b : Val) : Option Bool := (toPy a).bind fun x => (toPy b).bind fun y => if (SeqAt.shaped x && SeqAt.shaped y) = true then some (PyData.eqv x y) else none
def oEq (a b : Val) : Option Val := (eqB a b).map fun c => .bl c
def oNe (a b : Val) : Option Val := (eqB a b).map fun c => .bl (!c)
theorem vop_eq {K : PySem.W.Frag} : VOp2 (rEqD K) oEq := fun F H x y wx wy w Q hF ⟨g, rx⟩ ⟨g', ry⟩ e k => by
  simp only [oEq, eqB, Option.map_eq_some_iff, Option.bind_eq_some_iff] at e
  obtain ⟨c, ⟨a, e1, b, e2, e3⟩, e4⟩ := e
  split at e3
  case isFalse => cases e3
  case isTrue h =>
  cases e3; subst e4
  simp only [Bool.and_eq_true] at h
  exact ⟨a, b, rx.dp hF e1, ry.dp hF e2, h.1, h.2, k _ F H (.refl hF) (.of (.bl _))⟩
theorem vop_ne {K : PySem.W.Frag} : VOp2 (rNeD K) oNe := fun F H x y wx wy w Q hF ⟨g, rx⟩ ⟨g', ry⟩ e k => by
  simp only [oNe, eqB, Option.map_eq_some_iff, Option.bind_eq_some_iff] at e
  obtain ⟨c, ⟨a, e1, b, e2, e3⟩, e4⟩ := e
  split at e3
  case isFalse => cases e3
  case isTrue h =>
  cases e3; subst e4
  simp only [Bool.and_eq_true] at h
  exact ⟨a, b, rx.dp hF e1, ry.dp hF e2, h.1, h.2, k _ F H (.refl hF) (.of (.bl _))⟩
/-- is None -/
def oIsN (a b : Val) : Option Val := match b with
  | .non => some (.bl (match a with
    | .non => true
    | _ => false))
  | _ => none
def oNotN (a b : Val) : Option Val := match b with
  | .non => some (.bl (match a with
    | .non => false
    | _ => true))
  | _ => none
theorem vop_isN : VOp2 (fun x y H Q => y = .non ∧ Q (.bl (decide (x = .non))) H) oIsN := fun F H x y wx wy w Q hF ⟨g, rx⟩ ⟨g', ry⟩ e k => by
  cases wy <;> simp [oIsN] at e
  subst e
  cases ry
  refine ⟨rfl, ?_⟩
  cases rx <;> exact k _ F H (.refl hF) (.of (.bl _))
theorem vop_notN : VOp2 (fun x y H Q => y = .non ∧ Q (.bl (!decide (x = .non))) H) oNotN := fun F H x y wx wy w Q hF ⟨g, rx⟩ ⟨g', ry⟩ e k => by
  cases wy <;> simp [oNotN] at e
  subst e
  cases ry
  refine ⟨rfl, ?_⟩
  cases rx <;> exact k _ F H (.refl hF) (.of (.bl _))

/-! ### in -/
def atom : Val → Option V
  | .non => some .non
  | .bl b => some (.bl b)
  | .int i => some (.int i)
  | .str s => some (.str s)
  | _ => none
def atoms : List Val → Option (List V)
  | [] => some []
  | w :: ws => (atom w).bind fun v => (atoms ws).map fun vs => v :: vs
theorem atom_rep {F H : Hp} {w : Val} {v u : V} {g : List Addr} (e : atom w = some v) (r : Rep F H u w g) : u = v ∧ flatV v = true := by
  cases w <;> simp [atom] at e <;> subst e <;> cases r <;> exact ⟨rfl, rfl⟩
theorem atoms_rep {F H : Hp} : ∀ {ws : List Val} {vs us : List V} {g : List Addr}, atoms ws = some vs → Reps F H us ws g → us = vs ∧ vs.all flatV = true
  | [], _, _, _, e, r => by cases e; cases r; exact ⟨rfl, rfl⟩
  | w :: ws, _, _, _, e, r => by
    simp only [atoms, Option.bind_eq_some_iff, Option.map_eq_some_iff] at e
    obtain ⟨v, e1, vs, e2, rfl⟩ := e
    cases r with
    | cons r1 r2 =>
      obtain ⟨rfl, f1⟩ := atom_rep e1 r1
      obtain ⟨rfl, f2⟩ := atoms_rep e2 r2
      exact ⟨rfl, by simp [f1, f2]⟩
def strIn (a b : Str) : Bool := match a.cps.toList with
  | [c] => decide (c ∈ b.cps.toList)
  | _ => !(Builtin.Str.occurrences b a 0 b.length 1).isEmpty
theorem strIn_cases (a b : Str) : (∃ c, a = ⟨#[c]⟩ ∧ strIn a b = decide (c ∈ b.cps.toList)) ∨ strIn a b = !(Builtin.Str.occurrences b a 0 b.length 1).isEmpty := by
  unfold strIn
  split
  · rename_i c h
    refine .inl ⟨c, ?_, rfl⟩
    cases a with
    | mk cps =>
      have : cps = #[c] := Array.toList_inj.mp (by simpa using h)
      rw [this]
  · exact .inr rfl
def inB : Val → Val → Option Bool
  | .str a, .str b => some (strIn a b)
  | x, .tup ys => (atom x).bind fun v => (atoms ys).map fun vs => inV v vs
  | x, .tpz ys => (atom x).bind fun v => (atoms ys).map fun vs => inV v vs
  | x, .lst _ ys => match (atom x), (atoms ys) with
    | some v, some vs => some (inV v vs)
    | _, _ => (toPy x).bind fun d => (toPys ys).bind fun ds => if (SeqAt.shaped d && SeqAt.shaped (.list ds)) = true then some (ds.any fun z => PyData.eqv z d) else none
  | _, _ => none
def oIn (x y : Val) : Option Val := (inB x y).map fun c => .bl c
def oNotIn (x y : Val) : Option Val := (inB x y).map fun c => .bl (!c)
def rInAll (K : PySem.W.Frag) : R2 := fun x y H Q => (∃ (c : Nat) (z : Str), x = .str ⟨#[c]⟩ ∧ y = .str z ∧ Q (.bl (decide (c ∈ z.cps.toList))) H) ∨ (∃ i j, x = .str i ∧ y = .str j ∧ Q (.bl (!(Builtin.Str.occurrences j i 0 j.length 1).isEmpty)) H) ∨ rIn K false x y H Q ∨ rInD K x y H Q
def rNotInAll (K : PySem.W.Frag) : R2 := fun x y H Q => (∃ (c : Nat) (z : Str), x = .str ⟨#[c]⟩ ∧ y = .str z ∧ Q (.bl (!decide (c ∈ z.cps.toList))) H) ∨ (∃ i j, x = .str i ∧ y = .str j ∧ Q (.bl (!(!(Builtin.Str.occurrences j i 0 j.length 1).isEmpty))) H) ∨ rIn K true x y H Q ∨ rNotInD K x y H Q
theorem op_inAll {X : Cx} (hu : X.A.units + 65 < cLine) : OpR X (compareOp .In) (rInAll X.K) := opOr op_in_sign (opOr op_in_str (opOr op_in_seq (op_inD hu)))
theorem op_notInAll {X : Cx} (hu : X.A.units + 65 < cLine) : OpR X (compareOp .NotIn) (rNotInAll X.K) := opOr op_notIn_sign (opOr op_notin_str (opOr op_notIn_seq (op_notInD hu)))
theorem vop_inG {K : PySem.W.Frag} {neg : Bool} {r : R2} (hr : ∀ x y H Q, ((∃ (c : Nat) (z : Str), x = .str ⟨#[c]⟩ ∧ y = .str z ∧ Q (.bl (if neg then !decide (c ∈ z.cps.toList) else decide (c ∈ z.cps.toList))) H) ∨ (∃ i j, x = .str i ∧ y = .str j ∧ Q (.bl (if neg then !(!(Builtin.Str.occurrences j i 0 j.length 1).isEmpty) else !(Builtin.Str.occurrences j i 0 j.length 1).isEmpty)) H) ∨ rIn K neg x y H Q ∨
    ∃ d ds, Dp K H x d ∧ Dp K H y (.list ds) ∧ SeqAt.shaped d = true ∧ SeqAt.shaped (.list ds) = true ∧ Q (.bl (if neg then !ds.any fun z => PyData.eqv z d else ds.any fun z => PyData.eqv z d)) H) → r x y H Q) :
    VOp2 r (fun x y => (inB x y).map fun c => .bl (if neg then !c else c)) := fun F H x y wx wy w Q hF px py e k => by
  simp only [Option.map_eq_some_iff] at e
  obtain ⟨c, e1, e2⟩ := e
  subst e2
  apply hr
  cases wy with
  | str b =>
    cases wx <;> simp [inB] at e1
    rename_i a
    have := px.str; subst this
    have := py.str; subst this
    have kk := k _ F H (.refl hF) (.of (.bl (if neg then !c else c)))
    rcases strIn_cases a b with ⟨d, ha, hd⟩ | hd
    · rw [e1] at hd
      subst hd
      exact .inl ⟨d, b, by rw [ha], rfl, kk⟩
    · rw [e1] at hd
      subst hd
      exact .inr (.inl ⟨_, _, rfl, rfl, kk⟩)
  | tup ys =>
    replace e1 : ((atom wx).bind fun v => (atoms ys).map fun vs => inV v vs) = some c := by cases wx <;> exact e1
    simp only [Option.bind_eq_some_iff, Option.map_eq_some_iff] at e1
    obtain ⟨v, e3, vs, e2, rfl⟩ := e1
    obtain ⟨b, us, rfl, hb, g, ru⟩ := py.tup
    obtain ⟨g', rx⟩ := px
    obtain ⟨rfl, f1⟩ := atom_rep e3 rx
    obtain ⟨rfl, f2⟩ := atoms_rep e2 ru
    exact .inr (.inr (.inl ⟨b, us, rfl, .inr (.of (hF _ _ hb)), f1, f2, k _ F H (.refl hF) (.of (.bl _))⟩))
  | tpz ys =>
    replace e1 : ((atom wx).bind fun v => (atoms ys).map fun vs => inV v vs) = some c := by cases wx <;> exact e1
    simp only [Option.bind_eq_some_iff, Option.map_eq_some_iff] at e1
    obtain ⟨v, e3, vs, e2, rfl⟩ := e1
    obtain ⟨b, ob, us, rfl, hb, h0, g, ru⟩ := py.tpz
    obtain ⟨g', rx⟩ := px
    obtain ⟨rfl, f1⟩ := atom_rep e3 rx
    obtain ⟨rfl, f2⟩ := atoms_rep e2 ru
    exact .inr (.inr (.inl ⟨b, us, rfl, .inr (.inl (.inr ⟨_, hF _ _ hb⟩)), f1, f2, k _ F H (.refl hF) (.of (.bl _))⟩))
  | lst o ys =>
    obtain ⟨b, us, rfl, hb, g, ru⟩ := py.lst hF
    replace e1 : (match (atom wx), (atoms ys) with
      | some v, some vs => some (inV v vs)
      | _, _ => (toPy wx).bind fun d => (toPys ys).bind fun ds => if (SeqAt.shaped d && SeqAt.shaped (.list ds)) = true then some (ds.any fun z => PyData.eqv z d) else none) = some c := by cases wx <;> exact e1
    split at e1
    · rename_i v vs q1 q2
      cases e1
      obtain ⟨g', rx⟩ := px
      obtain ⟨rfl, f1⟩ := atom_rep q1 rx
      obtain ⟨rfl, f2⟩ := atoms_rep q2 ru
      exact .inr (.inr (.inl ⟨b, us, rfl, .inl (.of hb), f1, f2, k _ F H (.refl hF) (.of (.bl _))⟩))
    · simp only [Option.bind_eq_some_iff] at e1
      obtain ⟨d, e1, ds, e2, e3⟩ := e1
      split at e3
      case isFalse => cases e3
      case isTrue h =>
      cases e3
      simp only [Bool.and_eq_true] at h
      obtain ⟨g', rx⟩ := px
      exact .inr (.inr (.inr ⟨d, ds, rx.dp hF e1, .lst (.of hb) (ru.dp hF e2), h.1, h.2, k _ F H (.refl hF) (.of (.bl _))⟩))
  | _ => cases wx <;> simp [inB] at e1
theorem vop_in {K : PySem.W.Frag} : VOp2 (rInAll K) oIn := vop_inG (neg := false) fun x y H Q h => h
theorem vop_notIn {K : PySem.W.Frag} : VOp2 (rNotInAll K) oNotIn := vop_inG (neg := true) fun x y H Q h => h

/-! ### items, slices, len -/
def oIx : Val → Val → Option Val
  | .lst _ ws, .int i => atI ws i
  | .tup ws, .int i => atI ws i
  | .tpz ws, .int i => atI ws i
  | .str s, .int i => if s.length ≤ sizeLine then (atI s.cps.toList i).map fun c => .str ⟨#[c]⟩ else none
  | _, _ => none
theorem atI_rep {F H : Hp} {us : List V} {ws : List Val} {i : Int} {w : Val} (p : PkS F H us ws) (e : atI ws i = some w) : ∃ u, atI us i = some u ∧ Pk F H u w := by
  obtain ⟨g, r⟩ := p
  unfold atI at e ⊢
  rw [r.length]
  simp only [Option.bind_eq_some_iff] at e ⊢
  obtain ⟨j, e1, e2⟩ := e
  obtain ⟨v, g', e3, rv, _⟩ := r.get e2
  exact ⟨v, ⟨j, e1, e3⟩, g', rv⟩
theorem vix {K : PySem.W.Frag} : VIx (rIx K) oIx := fun F H x y wx wy w Q hF px py e k => by
  cases wx <;> cases wy <;> simp only [oIx] at e <;> try (cases e; done)
  · have := px.str; subst this
    have := py.int; subst this
    split at e
    case isFalse => cases e
    case isTrue h =>
    simp only [Option.map_eq_some_iff] at e
    obtain ⟨c, e1, rfl⟩ := e
    exact .inr (.inr ⟨_, _, c, rfl, rfl, h, e1, k _ ⟨_, .str _⟩⟩)
  · obtain ⟨a, us, rfl, ha, pu⟩ := px.tup
    have := py.int; subst this
    obtain ⟨u, e1, pu'⟩ := atI_rep pu e
    exact .inr (.inl ⟨a, us, _, u, rfl, rfl, .of (hF _ _ ha), e1, k u pu'⟩)
  · obtain ⟨a, us, rfl, ha, pu⟩ := px.lst hF
    have := py.int; subst this
    obtain ⟨u, e1, pu'⟩ := atI_rep pu e
    exact .inl ⟨a, us, _, u, rfl, rfl, .of ha, e1, k u pu'⟩
  · obtain ⟨a, ob, us, rfl, ha, h0, pu⟩ := px.tpz
    have := py.int; subst this
    obtain ⟨u, e1, pu'⟩ := atI_rep pu e
    exact .inr (.inl ⟨a, us, _, u, rfl, rfl, .inl (.inr ⟨_, hF _ _ ha⟩), e1, k u pu'⟩)
/-- the keys of dicts -/
def keyV : Val → Option Key
  | .int i => some (.inl i)
  | .str s => some (.inr s)
  | _ => none
def keysV : List Val → Option (List Key)
  | [] => some []
  | w :: ws => (keyV w).bind fun k => (keysV ws).map fun ks => k :: ks
theorem keyV_rep {F H : Hp} {w : Val} {k : Key} {u : V} {g : List Addr} (e : keyV w = some k) (r : Rep F H u w g) : u = kV k := by
  cases w <;> simp [keyV] at e <;> subst e <;> cases r <;> rfl
theorem keysV_rep {F H : Hp} : ∀ {ws : List Val} {ks : List Key} {us : List V} {g : List Addr}, keysV ws = some ks → Reps F H us ws g → us = ks.map kV
  | [], _, _, _, e, r => by cases e; cases r; rfl
  | w :: ws, _, _, _, e, r => by
    simp only [keysV, Option.bind_eq_some_iff, Option.map_eq_some_iff] at e
    obtain ⟨k, e1, ks, e2, rfl⟩ := e
    cases r with
    | cons r1 r2 => rw [keyV_rep e1 r1, keysV_rep e2 r2]; rfl
def lookL {κ : Type} [DecidableEq κ] : List κ → List Val → κ → Option Val
  | k' :: ks, w :: ws, k => if k' = k then some w else lookL ks ws k
  | _, _, _ => none
theorem lookL_rep {κ : Type} [DecidableEq κ] {F H : Hp} {k : κ} : ∀ {ks : List κ} {us : List V} {ws : List Val} {g : List Addr}, ks.length = us.length → Reps F H us ws g → (∀ w, lookL ks ws k = some w → ∃ u, valV (ks.zip us) k = some u ∧ Pk F H u w) ∧ (lookL ks ws k = none → valV (ks.zip us) k = none)
  | [], us, ws, g, el, r => by
    cases us with
    | nil => exact ⟨fun w e => (by unfold lookL at e; cases e), fun _ => rfl⟩
    | cons _ _ => simp at el
  | k' :: ks, us, ws, g, el, r => by
    cases r with
    | nil => simp at el
    | @cons u us w ws _ _ r1 r2 =>
      have ih := lookL_rep (k := k) (by simpa using el) r2
      show (∀ w', (if k' = k then some w else lookL ks ws k) = some w' → ∃ u', valV ((k', u) :: ks.zip us) k = some u' ∧ Pk F H u' w') ∧ ((if k' = k then some w else lookL ks ws k) = none → valV ((k', u) :: ks.zip us) k = none)
      by_cases h : k' = k
      · rw [if_pos h, valV_pos (p := (k', u)) h]
        exact ⟨fun w' e => (by cases e; exact ⟨u, rfl, _, r1⟩), fun e => (by cases e)⟩
      · rw [if_neg h, valV_neg (p := (k', u)) h]
        exact ih
/-- what a dict gives for a key -/
def dGet : Val → Val → Option (Option Val)
  | .dT _ ks ws, .tup kw => (keysV kw).map fun k => lookL ks ws k
  | .dK _ ks ws, kw => (keyV kw).map fun k => lookL ks ws k
  | _, _ => none
theorem dGet_rep {F H : Hp} {x y : V} {wx wy : Val} {o : Option Val} (hF : Le F H) (px : Pk F H x wx) (py : Pk F H y wy) (e : dGet wx wy = some o) : ∃ a r, x = .ref a ∧ IsD H a ∧ DGet H a y r ∧ (∀ w, o = some w → ∃ u, r = some u ∧ Pk F H u w) ∧ (o = none → r = none) := by
  cases wx with
  | dT ow ks ws =>
    cases wy <;> simp [dGet] at e
    obtain ⟨k, e1, rfl⟩ := e
    obtain ⟨b, us, rfl, hb, g, ru⟩ := py.tup
    have ek := keysV_rep e1 ru
    subst ek
    obtain ⟨g', rx⟩ := px
    obtain ⟨a, xs, h1, hl, g2, r2, rfl⟩ : ∃ a xs, H a = some (.dT (ks.zip xs)) ∧ ks.length = xs.length ∧ ∃ g2, Reps F H xs ws g2 ∧ x = .ref a := by
      cases rx with
      | tsh h1 hl h2 => exact ⟨_, _, hF _ _ h1, hl, _, h2, rfl⟩
      | tow h1 hl h2 => exact ⟨_, _, h1, hl, _, h2, rfl⟩
    obtain ⟨k1, k2⟩ := lookL_rep (k := k) hl r2
    exact ⟨a, _, rfl, .inr ⟨_, .inl h1⟩, .t h1 (hF _ _ hb), k1, k2⟩
  | dK ow ks ws =>
    replace e : ((keyV wy).map fun k => lookL ks ws k) = some o := by cases wy <;> exact e
    simp only [Option.map_eq_some_iff] at e
    obtain ⟨k, e1, rfl⟩ := e
    obtain ⟨gy, ry⟩ := py
    have ek := keyV_rep e1 ry
    subst ek
    obtain ⟨g', rx⟩ := px
    obtain ⟨a, xs, h1, hl, g2, r2, rfl⟩ : ∃ a xs, H a = some (.dK (ks.zip xs)) ∧ ks.length = xs.length ∧ ∃ g2, Reps F H xs ws g2 ∧ x = .ref a := by
      cases rx with
      | ksh h1 hl h2 => exact ⟨_, _, hF _ _ h1, hl, _, h2, rfl⟩
      | kow h1 hl h2 => exact ⟨_, _, h1, hl, _, h2, rfl⟩
    obtain ⟨k1, k2⟩ := lookL_rep (k := k) hl r2
    exact ⟨a, _, rfl, .inl ⟨_, .inl h1⟩, .k h1, k1, k2⟩
  | _ => cases wy <;> simp [dGet] at e
def isDict : Val → Bool
  | .dT _ _ _ => true
  | .dK _ _ _ => true
  | _ => false
def oSubs (x y : Val) : Option Val := if isDict x = true then (dGet x y).bind id else oIx x y
section
variable {X : Cx} {a b c : Expr} {fa fb fc : P Val} {pos p2 apos cpos : Pos}
theorem dp_sub (hu : X.A.units + 1 < cLine) (ha : DP X a fa) (hb : DP X b fb) (hs : PlainIx b) (hs2 : NoSl b) : DP X (.Subscript a b pos) (pOp2 oSubs fa fb) := peCase fun σ H Q h => by
  obtain ⟨F, ρ, fp, hF, rr, w, ew, k⟩ := h
  unfold pOp2 at ew
  simp only [Option.bind_eq_some_iff] at ew
  obtain ⟨x, e1, y, e2, e3⟩ := ew
  unfold oSubs at e3
  by_cases hd : isDict x = true
  · rw [if_pos hd] at e3
    simp only [Option.bind_eq_some_iff, id] at e3
    obtain ⟨o, e3, e4⟩ := e3
    refine ⟨_, pe_dget hu ha hb hs2, F, ρ, fp, hF, rr, x, e1, fun u F1 H1 x1 p1 => ?_⟩
    refine ⟨F1, ρ, fp, x1.FH, rr.ext x1, y, e2, fun v F2 H2 x2 p2 => ?_⟩
    obtain ⟨ad, r, rfl, _, dg, k1, _⟩ := dGet_rep x2.FH (p1.ext x2) p2 e3
    obtain ⟨u', rfl, pu⟩ := k1 w e4
    exact ⟨ad, u', rfl, dg, k u' F2 H2 (x1.trans x2) pu⟩
  · rw [if_neg hd] at e3
    refine ⟨_, pe_ix ix_seq ha hb hs, F, ρ, fp, hF, rr, x, e1, fun u F1 H1 x1 p1 => ?_⟩
    refine ⟨F1, ρ, fp, x1.FH, rr.ext x1, y, e2, fun v F2 H2 x2 p2 => ?_⟩
    exact vix F2 H2 u v x y w Q x2.FH (p1.ext x2) p2 e3 fun z n => k z F2 H2 (x1.trans x2) n
/-- d.get(k, x) -/
def pGet2 (fa fb fc : P Val) : P Val := fun ρ => (fa ρ).bind fun x => (fb ρ).bind fun y => (fc ρ).bind fun z => (dGet x y).map fun o => o.getD z
theorem dp_get2 (hu : X.A.units + 1 < cLine) (ha : DP X a fa) (hb : DP X b fb) (hc : DP X c fc) (m : M2 X a "get" apos b c cpos) : DP X (.Call (.Attribute a "get" apos) [b, c] [] cpos) (pGet2 fa fb fc) := peImp (pe_dget2 hu ha hb hc m) fun σ H Q h => by
  obtain ⟨F, ρ, fp, hF, rr, w, ew, k⟩ := h
  unfold pGet2 at ew
  simp only [Option.bind_eq_some_iff, Option.map_eq_some_iff] at ew
  obtain ⟨x, e1, y, e2, z, e3, o, e4, e5⟩ := ew
  refine ⟨F, ρ, fp, hF, rr, x, e1, fun u F1 H1 x1 p1 => ?_⟩
  have isd : ∃ ad, u = .ref ad ∧ IsD H1 ad := by
    obtain ⟨g, rx⟩ := p1
    cases x with
    | dT ow ks ws =>
      cases rx with
      | tsh h1 hl h2 => exact ⟨_, rfl, .inr ⟨_, .inl (x1.FH _ _ h1)⟩⟩
      | tow h1 hl h2 => exact ⟨_, rfl, .inr ⟨_, .inl h1⟩⟩
    | dK ow ks ws =>
      cases rx with
      | ksh h1 hl h2 => exact ⟨_, rfl, .inl ⟨_, .inl (x1.FH _ _ h1)⟩⟩
      | kow h1 hl h2 => exact ⟨_, rfl, .inl ⟨_, .inl h1⟩⟩
    | _ => cases y <;> simp [dGet] at e4
  obtain ⟨ad, rfl, hd⟩ := isd
  refine ⟨ad, rfl, hd, F1, ρ, fp, x1.FH, rr.ext x1, y, e2, fun v F2 H2 x2 p2 => ?_⟩
  refine ⟨F2, ρ, fp, x2.FH, rr.ext (x1.trans x2), z, e3, fun t F3 H3 x3 p3 => ?_⟩
  obtain ⟨ad', r, e6, _, dg, k1, k2⟩ := dGet_rep x3.FH (p1.ext (x2.trans x3)) (p2.ext x3) e4
  cases e6
  refine ⟨r, dg, ?_⟩
  have x13 := (x1.trans x2).trans x3
  cases o with
  | none => rw [k2 rfl]; subst e5; exact k t F3 H3 x13 p3
  | some w' =>
    obtain ⟨u', rfl, pu⟩ := k1 w' rfl
    subst e5
    exact k u' F3 H3 x13 pu
end
def oLen : List Val → Option Val
  | [.lst _ ws] => some (.int ws.length)
  | [.tup ws] => some (.int ws.length)
  | [.tpz ws] => some (.int ws.length)
  | [.str s] => if s.length ≤ sizeLine then some (.int s.length) else none
  | _ => none
theorem vlen {K : PySem.W.Frag} : VOpS (fun xs H Q => ∃ x n, xs = [x] ∧ LenV K x H n ∧ Q (.int n) H) oLen := fun F H xs ws w Q hF p e k => by
  match ws, e with
  | [.lst o vs], e =>
    cases e
    obtain ⟨u, rfl, pu⟩ := p.one
    obtain ⟨a, us, rfl, ha, pus⟩ := pu.lst hF
    refine ⟨_, _, rfl, .inl ⟨us, .of ha, rfl⟩, ?_⟩
    rw [pus.len]
    exact k _ F H (.refl hF) (.of (.int _))
  | [.tup vs], e =>
    cases e
    obtain ⟨u, rfl, pu⟩ := p.one
    obtain ⟨a, us, rfl, ha, pus⟩ := pu.tup
    refine ⟨_, _, rfl, .inr ⟨us, .of (hF _ _ ha), rfl⟩, ?_⟩
    rw [pus.len]
    exact k _ F H (.refl hF) (.of (.int _))
  | [.tpz vs], e =>
    cases e
    obtain ⟨u, rfl, pu⟩ := p.one
    obtain ⟨a, ob, us, rfl, ha, h0, pus⟩ := pu.tpz
    refine ⟨_, _, rfl, .inr ⟨us, .inl (.inr ⟨_, hF _ _ ha⟩), rfl⟩, ?_⟩
    rw [pus.len]
    exact k _ F H (.refl hF) (.of (.int _))
  | [.str s], e =>
    simp only [oLen] at e
    split at e
    case isFalse => cases e
    case isTrue h =>
    cases e
    obtain ⟨u, rfl, pu⟩ := p.one
    have := pu.str; subst this
    exact ⟨_, _, rfl, ⟨h, rfl⟩, k _ F H (.refl hF) (.of (.int _))⟩
def cutW (xs : List Val) (lo hi : Option Int) : List Val := (xs.drop (HT.sIx xs.length 0 lo)).take (HT.sIx xs.length xs.length hi - HT.sIx xs.length 0 lo)
theorem Reps.dropE {F H : Hp} : ∀ {us : List V} {ws : List Val} {g : List Addr} (n : Nat), Reps F H us ws g → ∃ g', Reps F H (us.drop n) (ws.drop n) g' ∧ ∀ a ∈ g', a ∈ g
  | _, _, g, 0, r => ⟨g, r, fun _ h => h⟩
  | _, [], _, n + 1, r => by cases r; exact ⟨[], .nil, fun _ h => h⟩
  | _, w :: ws, _, n + 1, r => by
    cases r with
    | cons r1 r2 =>
      obtain ⟨g', r', h⟩ := Reps.dropE n r2
      exact ⟨g', r', fun a ha => List.mem_append_right _ (h a ha)⟩
theorem Reps.takeE {F H : Hp} : ∀ {us : List V} {ws : List Val} {g : List Addr} (n : Nat), Reps F H us ws g → ∃ g', Reps F H (us.take n) (ws.take n) g' ∧ ∀ a ∈ g', a ∈ g
  | _, _, g, 0, r => ⟨[], .nil, fun _ h => by cases h⟩
  | _, [], _, n + 1, r => by cases r; exact ⟨[], .nil, fun _ h => h⟩
  | _, w :: ws, _, n + 1, r => by
    cases r with
    | cons r1 r2 =>
      obtain ⟨g', r', h⟩ := Reps.takeE n r2
      refine ⟨_, .cons r1 r', fun a ha => ?_⟩
      rcases List.mem_append.mp ha with ha | ha
      · exact List.mem_append_left _ ha
      · exact List.mem_append_right _ (h a ha)
theorem nil_of_sub {g g' : List Addr} (e : g = []) (h : ∀ a ∈ g', a ∈ g) : g' = [] := by
  subst e
  exact List.eq_nil_iff_forall_not_mem.mpr fun a ha => by cases h a ha
theorem Reps.drop {F H : Hp} {us : List V} {ws : List Val} (n : Nat) (r : Reps F H us ws []) : Reps F H (us.drop n) (ws.drop n) [] := by
  obtain ⟨g', r', h⟩ := r.dropE n
  rw [nil_of_sub rfl h] at r'; exact r'
theorem Reps.take {F H : Hp} {us : List V} {ws : List Val} (n : Nat) (r : Reps F H us ws []) : Reps F H (us.take n) (ws.take n) [] := by
  obtain ⟨g', r', h⟩ := r.takeE n
  rw [nil_of_sub rfl h] at r'; exact r'
open Classical in
noncomputable def oSlice (K : PySem.W.Frag) (x : Val) (lo hi : Option Int) : Option Val := match x with
  | .scr K' ns => if K' = K then some (.lst true (cutW (ns.map .int) lo hi)) else none
  | .lst _ ws => if noOwns ws = true then some (.lst true (cutW ws lo hi)) else none
  | .tup ws => if noOwns ws = true then some (.tup (cutW ws lo hi)) else none
  | .tpz ws => if noOwns ws = true then (if HT.sIx ws.length 0 lo = 0 ∧ HT.sIx ws.length ws.length hi = ws.length then some (.tpz ws) else some (.tup (cutW ws lo hi))) else none
  | .str s => if s.length ≤ sizeLine then some (.str (Txt.slice s lo hi)) else none
  | _ => none
def tPO (f : P (Option Int)) : TO := fun σ H Q => ∃ F ρ fp, Le F H ∧ RepL F H σ ρ fp ∧ ∃ w, f ρ = some w ∧ ∀ F' H', Ext F H F' H' → Q w H'
abbrev DPO (X : Cx) (e : Option Expr) (f : P (Option Int)) : Prop := PO X e (tPO f)
def poNone : P (Option Int) := fun _ => some none
def poSome (f : P Val) : P (Option Int) := fun ρ => (f ρ).bind fun w => match w with
  | .int i => some (some i)
  | _ => none
theorem dpo_none {X : Cx} : DPO X none poNone := ⟨fun pins s σ H Q I ⟨F, ρ, fp, hF, r, w, e, k⟩ => by cases e; exact po_none.run pins s σ H Q I (k F H (.refl hF))⟩
theorem dpo_some {X : Cx} {e : Expr} {f : P Val} (h : DP X e f) : DPO X (some e) (poSome f) := ⟨fun pins s σ H Q I ⟨F, ρ, fp, hF, r, w, ew, k⟩ => (po_some h).run pins s σ H Q I (by
  simp only [poSome, Option.bind_eq_some_iff] at ew
  obtain ⟨x, e1, e2⟩ := ew
  refine ⟨F, ρ, fp, hF, r, x, e1, fun u F' H' x1 p1 => ?_⟩
  cases x <;> simp at e2
  subst e2
  have := p1.int; subst this
  exact ⟨_, rfl, k F' H' x1⟩)⟩
noncomputable def pSlice (K : PySem.W.Frag) (fa : P Val) (fl fh : P (Option Int)) : P Val := fun ρ => (fa ρ).bind fun x => (fl ρ).bind fun l => (fh ρ).bind fun h => oSlice K x l h
theorem cutV_rep {F H : Hp} {us : List V} {ws : List Val} {lo hi : Option Int} (r : Reps F H us ws []) : Reps F H (cutV us lo hi) (cutW ws lo hi) [] := by
  unfold cutV cutW
  rw [r.length]
  exact (r.drop _).take _
theorem df_slice {X : Cx} {a : Expr} {lo hi : Option Expr} {fa : P Val} {fl fh : P (Option Int)} {pos p2 : Pos} (ha : DP X a fa) (hl : DPO X lo fl) (hh : DPO X hi fh) : DF X (.Subscript a (.Slice lo hi none p2) pos) (pSlice X.K fa fl fh) := peCase fun σ H Q h => by
  obtain ⟨F, ρ, fp, hF, rr, w, ew, k⟩ := h
  simp only [pSlice, Option.bind_eq_some_iff] at ew
  obtain ⟨x, e1, l, e2, u, e3, e4⟩ := ew
  have go : ∀ {r : V → Option Int → Option Int → Hp → VK → Prop}, (∀ (v : V) (F3 H3 : Hp), Ext F H F3 H3 → Pk F3 H3 v x → r v l u H3 Q) → tSl r (tP fa) (tPO fl) (tPO fh) σ H Q := fun {r} hr => by
    refine ⟨F, ρ, fp, hF, rr, x, e1, fun v F1 H1 x1 p1 => ?_⟩
    refine ⟨F1, ρ, fp, x1.FH, rr.ext x1, l, e2, fun F2 H2 x2 => ?_⟩
    refine ⟨F2, ρ, fp, x2.FH, rr.ext (x1.trans x2), u, e3, fun F3 H3 x3 => ?_⟩
    exact hr v F3 H3 ((x1.trans x2).trans x3) (p1.ext (x2.trans x3))
  cases x with
  | lst o ws =>
    simp only [oSlice] at e4
    split at e4
    case isFalse => cases e4
    case isTrue n =>
    cases e4
    refine ⟨_, pe_slice sl_list ha hl hh, go fun v F3 H3 x3 p3 => ?_⟩
    obtain ⟨ad, us, rfl, hd, pu⟩ := p3.lst x3.FH
    refine ⟨ad, us, rfl, .of hd, fun p np => ?_⟩
    obtain ⟨x4, n4⟩ := Nw.lst x3.FH np (cutV_rep (lo := l) (hi := u) (pu.no n))
    exact k _ _ _ (x3.trans x4) (n4.ext x3 x4)
  | tup ws =>
    simp only [oSlice] at e4
    split at e4
    case isFalse => cases e4
    case isTrue n =>
    cases e4
    refine ⟨_, pe_slice sl_tupA ha hl hh, go fun v F3 H3 x3 p3 => ?_⟩
    obtain ⟨ad, us, rfl, hd, pu⟩ := p3.tup
    have ru := pu.no n
    refine ⟨ad, us, rfl, .of (x3.FH _ _ hd), fun hw => ?_, fun hw p np => ?_⟩
    · have e5 : cutW ws l u = ws := by
        unfold cutW
        rw [pu.len] at hw
        rw [hw.1, hw.2]; simp
      rw [e5] at k
      exact k _ F3 H3 x3 (.of (.tup hd ru))
    · obtain ⟨x4, n4⟩ := Nw.tup x3.FH np (cutV_rep (lo := l) (hi := u) ru)
      exact k _ _ _ (x3.trans x4) (n4.ext x3 x4)
  | tpz ws =>
    simp only [oSlice] at e4
    split at e4
    case isFalse => cases e4
    case isTrue n =>
    refine ⟨_, pe_slice sl_tupA ha hl hh, go fun v F3 H3 x3 p3 => ?_⟩
    obtain ⟨ad, ob, us, rfl, hd, h0, pu⟩ := p3.tpz
    have ru := pu.no n
    refine ⟨ad, us, rfl, .inl (.inr ⟨_, x3.FH _ _ hd⟩), fun hw => ?_, fun hw p np => ?_⟩
    · rw [pu.len] at hw
      rw [if_pos hw] at e4
      cases e4
      exact k _ F3 H3 x3 (.of (.tpz hd h0 ru))
    · rw [pu.len] at hw
      rw [if_neg hw] at e4
      cases e4
      obtain ⟨x4, n4⟩ := Nw.tup x3.FH np (cutV_rep (lo := l) (hi := u) ru)
      exact k _ _ _ (x3.trans x4) (n4.ext x3 x4)
  | str s =>
    simp only [oSlice] at e4
    split at e4
    case isFalse => cases e4
    case isTrue n =>
    cases e4
    refine ⟨_, pe_slice C8.sl_txt ha hl hh, go fun v F3 H3 x3 p3 => ?_⟩
    have := p3.str; subst this
    exact ⟨s, rfl, n, k _ F3 H3 x3 (.of (.str _))⟩
  | scr K' ns =>
    simp only [oSlice] at e4
    split at e4
    case isFalse => cases e4
    case isTrue hK =>
    subst hK
    cases e4
    refine ⟨_, pe_slice sl_list ha hl hh, go fun v F3 H3 x3 p3 => ?_⟩
    obtain ⟨g, r⟩ := p3
    cases r with
    | scr hs =>
    refine ⟨_, _, rfl, Same.seq x3.FH hs, fun p np => ?_⟩
    have ri : ∀ ns : List Int, Reps F3 H3 (ns.map V.int) (ns.map Val.int) [] := fun ns => by
      induction ns with
      | nil => exact .nil
      | cons n ns ih => exact .cons (f1 := []) (f2 := []) (.int n) ih
    obtain ⟨x4, n4⟩ := Nw.lst x3.FH np (cutV_rep (lo := l) (hi := u) (ri ns))
    exact k _ _ _ (x3.trans x4) (n4.ext x3 x4)
  | _ => simp [oSlice] at e4
end L2.DL

namespace L2.DL
open L2 PyProof.Rows PySem.Spec PySem

/-! ### what a slot owns is changed where it stands -/
theorem psCase {X : Cx} {e : Stmt} {t' : TS} (k : ∀ D σ H, t' D σ H → ∃ t, PS X e t ∧ t D σ H) : PS X e t' := ⟨fun pins s σ H D I q => let ⟨_, h, q'⟩ := k D σ H q; h.run pins s σ H D I q'⟩
section
variable {B : Base} {F H : Hp} {σ : St} {ρ : Slots} {τ : List (Option V)} {θ : Slots} {us : List V} {ws : List Val} {i : Nat}
/-- an own object at the top of slot i, and the roots us: what may be put there -/
theorem SR.open {w : Val} {a : Addr} {gi : List Addr} (el : us.length = ws.length) (s : SR B F H σ ρ (us.map some ++ τ) (ws.map some ++ θ)) (h : ρ[i]? = some (some w)) :
    ∃ v g gus, σ[i]? = some (some v) ∧ Rep F H v w g ∧ Reps F H us ws gus ∧ (∀ a, g.count a + gus.count a ≤ 1) ∧
      ∀ {a : Addr} {o : HO} {w' : Val} {g' : List Addr} {v2 : V} {w2 : Val} {gv : List Addr}, a ∈ g → (∀ xs, H a ≠ some (.tup xs)) → Rep F (L2.upd H a o) v w' g' → Rep F (L2.upd H a o) v2 w2 gv → (∀ b, g'.count b + gv.count b ≤ g.count b + gus.count b) →
        SR B F (L2.upd H a o) σ (ρ.set i (some w')) (some v2 :: τ) (some w2 :: θ) := by
  obtain ⟨f1, f2, sf⟩ := s
  obtain ⟨gus, f, h1, h2, e⟩ := RepL.split (by simpa using el) sf.t
  subst e
  obtain ⟨v, g, r, ev, rw, c, k⟩ := sf.s.upd (fun a => by have := sf.le1 a; omega) h
  refine ⟨v, g, gus, ev, rw, h1.reps, fun a => by have := sf.le1 a; have := c a; rw [List.count_append] at *; omega, fun {a o w' g' v2 w2 gv} ha nt r' r2 cc => ?_⟩
  have hca := count_of_mem ha
  have oa := sf.own a (by have := c a; omega)
  have keep : ∀ b, b ≠ a → (L2.upd H a o) b = H b := fun b hb => upd_ne hb
  have nin : ∀ {l : List Addr}, l.count a = 0 → ∀ b ∈ l, b ≠ a := fun {l} z b hb e => by subst e; have := count_of_mem hb; omega
  obtain ⟨f', rf', c'⟩ := k (F' := F) (H' := L2.upd H a o) (w' := some w') (g' := g') (.refl _) (fun b hb => keep b (nin (by have := sf.le1 a; have := c a; rw [List.count_append] at *; omega) b hb)) (fun u e => by cases e; exact r')
  refine ⟨f', gv ++ f, rf', .live r2 (h2.mono (.refl _) fun b hb => keep b (nin (by have := sf.le1 a; have := c a; rw [List.count_append] at *; omega) b hb)), fun b => ?_, fun b hb => ?_, fun b x hx => ?_, sf.F0, fun b x e1 e2 => ?_, fun b hb => ?_, sf.new, sf.pin⟩
  · have := sf.le1 b; have := c b; have := c' b; have := cc b; rw [List.count_append] at *; omega
  · have := c b; have := c' b; have := cc b; rw [List.count_append] at *; exact sf.own b (by rw [List.count_append]; omega)
  · have : b ≠ a := fun z => by subst z; rw [oa.1] at hx; cases hx
    rw [keep b this]; exact sf.FH b x hx
  · have : b ≠ a := fun z => by
      subst z
      rcases oa.2 with z | z
      · exact e2 z
      · rw [e1] at z; cases z
    rw [keep b this]; exact sf.keep b x e1 e2
  · have : b ≠ a := fun z => by subst z; rw [upd_same] at hb; cases hb
    rw [keep b this] at hb; exact sf.dom b hb
end
/-- a list in slot i -/
theorem SR.openL {B : Base} {F H : Hp} {σ : St} {ρ : Slots} {τ : List (Option V)} {θ : Slots} {us : List V} {ws xs : List Val} {i : Nat} (el : us.length = ws.length) (s : SR B F H σ ρ (us.map some ++ τ) (ws.map some ++ θ)) (h : ρ[i]? = some (some (.lst true xs))) :
    ∃ a vs ga gus, σ[i]? = some (some (.ref a)) ∧ H a = some (.lst vs) ∧ Reps F H vs xs ga ∧ Reps F H us ws gus ∧ ∀ (vs' : List V) (xs' : List Val) (g' : List Addr) (v2 : V) (w2 : Val) (gv : List Addr), Reps F H vs' xs' g' → Rep F H v2 w2 gv → (∀ b, g'.count b + gv.count b ≤ ga.count b + gus.count b) →
      SR B F (L2.upd H a (.lst vs')) σ (ρ.set i (some (.lst true xs'))) (some v2 :: τ) (some w2 :: θ) := by
  obtain ⟨v, g, gus, ev, r, rus, c1, k⟩ := SR.open (a := 0) (gi := []) el s h
  cases r with
  | @low a vs _ ga ha rv =>
    refine ⟨a, vs, ga, gus, ev, ha, rv, rus, fun vs' xs' g' v2 w2 gv r1 r2 cc => ?_⟩
    have ca := c1 a
    rw [List.count_cons_self] at ca
    have cca := cc a
    have keep : ∀ {l : List Addr}, l.count a = 0 → ∀ b ∈ l, (L2.upd H a (.lst vs')) b = H b := fun {l} z b hb => upd_ne fun e => by subst e; have := count_of_mem hb; omega
    refine k List.mem_cons_self (fun z e => by rw [ha] at e; cases e) (.low (fp := g') upd_same (r1.mono (.refl _) (keep (by omega)))) (r2.mono (.refl _) (keep (by omega))) fun b => ?_
    have := cc b
    simp only [List.count_cons]
    omega
theorem Reps.eraseE {F H : Hp} : ∀ {us : List V} {ws : List Val} {g : List Addr} {k : Nat} {w : Val}, Reps F H us ws g → ws[k]? = some w → ∃ u gu g', us[k]? = some u ∧ Rep F H u w gu ∧ Reps F H (us.eraseIdx k) (ws.eraseIdx k) g' ∧ ∀ b, gu.count b + g'.count b = g.count b
  | _, [], _, _, _, r, e => by simp at e
  | _, w :: ws, _, 0, _, r, e => by
    cases r with
    | cons r1 r2 =>
      simp at e; subst e
      exact ⟨_, _, _, rfl, r1, r2, fun b => by rw [List.count_append]⟩
  | _, w :: ws, _, k + 1, _, r, e => by
    cases r with
    | @cons _ _ _ _ f1 f2 r1 r2 =>
      obtain ⟨u, gu, g', e1, ru, r', c⟩ := Reps.eraseE (k := k) r2 (by simpa using e)
      exact ⟨u, gu, f1 ++ g', by simpa using e1, ru, .cons r1 r', fun b => by have := c b; rw [List.count_append, List.count_append]; omega⟩
theorem Reps.setE {F H : Hp} {u : V} {w : Val} {gu : List Addr} (ru : Rep F H u w gu) : ∀ {us : List V} {ws : List Val} {g : List Addr} (k : Nat), Reps F H us ws g → ∃ g', Reps F H (us.set k u) (ws.set k w) g' ∧ ∀ b, g'.count b ≤ g.count b + gu.count b
  | _, [], _, _, r => by cases r; exact ⟨[], .nil, fun b => by simp⟩
  | _, x :: ws, _, 0, r => by
    cases r with
    | cons r1 r2 => exact ⟨_, .cons ru r2, fun b => by simp only [List.count_append]; omega⟩
  | _, x :: ws, _, k + 1, r => by
    cases r with
    | @cons _ _ _ _ f1 f2 r1 r2 =>
      obtain ⟨g', r', c⟩ := Reps.setE ru k r2
      exact ⟨f1 ++ g', .cons r1 r', fun b => by have := c b; simp only [List.count_append]; omega⟩

/-! ### methods that change a list -/
/-- what a method gives, and what the list is behind it -/
abbrev Mu := List Val → List Val → Option (Val × List Val)
def VMut (r : V → List V → Hp → VK → Prop) (g : Mu) : Prop := ∀ (B : Base) (F H : Hp) (σ : St) (ρ : Slots) (τ : List (Option V)) (θ : Slots) (i : Nat) (us : List V) (ws xs xs' : List Val) (res : Val) (v : V) (Q : VK),
  us.length = ws.length → SR B F H σ ρ (us.map some ++ τ) (ws.map some ++ θ) → ρ[i]? = some (some (.lst true xs)) → σ[i]? = some (some v) → g xs ws = some (res, xs') →
  (∀ u F' H', SR B F' H' σ (ρ.set i (some (.lst true xs'))) (some u :: τ) (some res :: θ) → Q u H') → r v us H Q
def gAppend : Mu := fun xs ws => match ws with
  | [w] => if xs.length < sizeLine then some (.non, xs ++ [w]) else none
  | _ => none
theorem vm_append : VMut rAppend gAppend := fun B F H σ ρ τ θ i us ws xs xs' res v Q el s h ev e k => by
  match ws, e with
  | [w], e =>
    simp only [gAppend] at e
    split at e
    case isFalse => cases e
    case isTrue hz =>
    cases e
    obtain ⟨a, vs, ga, gus, ev', ha, rv, rus, kk⟩ := SR.openL el s h
    rw [ev] at ev'; cases ev'
    match us, el with
    | [u], _ =>
      refine ⟨a, vs, u, rfl, rfl, ha, by rw [rv.length]; exact hz, ?_⟩
      exact k .non F _ (kk (vs ++ [u]) (xs ++ [w]) (ga ++ gus) .non .non [] (rv.append rus) .non fun b => by simp only [List.count_append, List.count_nil]; omega)
def gPop : Mu := fun xs ws => match ws with
  | [] => match xs[xs.length - 1]? with
    | some w => some (w, xs.dropLast)
    | none => none
  | [.int i] => if ltA i (2 ^ 63) = true then (match seqIndex? i xs.length with
    | some k => (xs[k]?).map fun w => (w, xs.eraseIdx k)
    | none => none) else none
  | _ => none
def rPops : V → List V → Hp → VK → Prop := fun x vs H Q => rPop x vs H Q ∨ rPopAt x vs H Q
theorem mt_pops {X : Cx} : MtR X "list.pop" rPops := MtR.or mt_pop mt_popAt
theorem dropLast_erase {α : Type} : ∀ (xs : List α), xs.dropLast = xs.eraseIdx (xs.length - 1)
  | [] => rfl
  | [x] => rfl
  | x :: y :: r => by
    have := dropLast_erase (y :: r)
    simp only [List.dropLast, List.length_cons] at this ⊢
    rw [this]
    rfl
theorem vm_pop : VMut rPops gPop := fun B F H σ ρ τ θ i us ws xs xs' res v Q el s h ev e k => by
  obtain ⟨a, vs, ga, gus, ev', ha, rv, rus, kk⟩ := SR.openL el s h
  rw [ev] at ev'; cases ev'
  match ws, e with
  | [], e =>
    simp only [gPop] at e
    split at e
    case h_2 => cases e
    case h_1 w hw =>
    cases e
    match us, el with
    | [], _ =>
      obtain ⟨u, gu, g', e1, ru, r', c⟩ := Reps.eraseE rv hw
      refine .inl ⟨a, vs, u, rfl, rfl, ha, by rw [rv.length]; exact e1, ?_⟩
      rw [dropLast_erase xs] at k
      rw [dropLast_erase vs, rv.length]
      exact k u F _ (kk _ _ g' u _ gu r' ru fun b => by have := c b; omega)
  | [.int j], e =>
    simp only [gPop] at e
    split at e
    case isFalse => cases e
    case isTrue hj0 =>
    have hj : -(2 ^ 63) ≤ j ∧ j < 2 ^ 63 := by have := ltA_iff.mp hj0; omega
    split at e
    case h_2 => cases e
    case h_1 kx hk =>
    simp only [Option.map_eq_some_iff] at e
    obtain ⟨w1, hw, e⟩ := e
    cases e
    match us, el with
    | [u0], _ =>
      have eu : u0 = .int j := by cases rus with | cons r1 r2 => cases r1; rfl
      subst eu
      obtain ⟨u, gu, g', e1, ru, r', c⟩ := Reps.eraseE rv hw
      refine .inr ⟨a, vs, j, kx, u, rfl, rfl, ha, hj.1, hj.2, by rw [rv.length]; exact hk, e1, ?_⟩
      exact k u F _ (kk _ _ g' u _ gu r' ru fun b => by have := c b; omega)
def gInsert : Mu := fun xs ws => match ws with
  | [.int i, w] => if xs.length < sizeLine ∧ 0 ≤ i ∧ ltA i (2 ^ 63) = true then some (.non, xs.take i.toNat ++ [w] ++ xs.drop i.toNat) else none
  | _ => none
def rInsert : V → List V → Hp → VK → Prop := fun x vs H Q => ∃ (l : Addr) (xs : List V) (i : Int) (y : V), x = .ref l ∧ vs = [.int i, y] ∧ H l = some (.lst xs) ∧ xs.length < sizeLine ∧ 0 ≤ i ∧ i < 2 ^ 63 ∧
    Q .non (upd H l (.lst (xs.take i.toNat ++ [y] ++ xs.drop i.toNat)))
theorem Reps.cut {F H : Hp} : ∀ {us : List V} {ws : List Val} {g : List Addr} (n : Nat), Reps F H us ws g → ∃ g1 g2, Reps F H (us.take n) (ws.take n) g1 ∧ Reps F H (us.drop n) (ws.drop n) g2 ∧ ∀ b, g1.count b + g2.count b = g.count b
  | _, _, g, 0, r => ⟨[], g, .nil, r, fun b => by simp⟩
  | _, [], _, n + 1, r => by cases r; exact ⟨[], [], .nil, .nil, fun b => by simp⟩
  | _, w :: ws, _, n + 1, r => by
    cases r with
    | @cons _ _ _ _ f1 f2 r1 r2 =>
      obtain ⟨g1, g2, a, b, c⟩ := Reps.cut n r2
      exact ⟨f1 ++ g1, g2, .cons r1 a, b, fun x => by have := c x; simp only [List.count_append]; omega⟩
theorem vm_insert : VMut rInsert gInsert := fun B F H σ ρ τ θ i us ws xs xs' res v Q el s h ev e k => by
  obtain ⟨a, vs, ga, gus, ev', ha, rv, rus, kk⟩ := SR.openL el s h
  rw [ev] at ev'; cases ev'
  match ws, e with
  | [.int j, w], e =>
    simp only [gInsert] at e
    split at e
    case isFalse => cases e
    case isTrue hj =>
    cases e
    match us, el with
    | [u0, u], _ =>
      cases rus with
      | @cons _ _ _ _ f1 f2 r1 r2 =>
        cases r1
        obtain ⟨g1, g2, q1, q2, c⟩ := Reps.cut j.toNat rv
        refine ⟨a, vs, j, u, rfl, rfl, ha, by rw [rv.length]; exact hj.1, hj.2.1, (by have := ltA_iff.mp hj.2.2; omega), ?_⟩
        exact k .non F _ (kk _ _ ((g1 ++ f2) ++ g2) .non .non [] ((q1.append r2).append q2) .non fun b => by have := c b; simp only [List.count_append, List.count_nil]; omega)
def gClear : Mu := fun xs ws => match ws with
  | [] => some (.non, [])
  | _ => none
theorem vm_clear : VMut rClear gClear := fun B F H σ ρ τ θ i us ws xs xs' res v Q el s h ev e k => by
  obtain ⟨a, vs, ga, gus, ev', ha, rv, rus, kk⟩ := SR.openL el s h
  rw [ev] at ev'; cases ev'
  match ws, e with
  | [], e =>
    cases e
    match us, el with
    | [], _ => exact ⟨a, vs, rfl, rfl, ha, k .non F _ (kk [] [] [] .non .non [] .nil .non fun b => by simp)⟩
def isLst : Val → Bool
  | .lst _ _ => true
  | _ => false
def mMeth (g : Mu) (i : Nat) (fs : M (List Val)) : M Val := fun ρ => match (ρ[i]?).join with
  | some (.lst _ _) => (fs ρ).bind fun ws ρ1 => (match (ρ1[i]?).join with
    | some (.lst true xs) => (match g xs ws with
      | some (res, xs') => .ok res (ρ1.set i (some (.lst true xs')))
      | none => .bad)
    | _ => .bad)
  | _ => .bad
section
variable {X : Cx} {k : Nat} {W : WX} {e : Expr} {es : List Expr} {fs : M (List Val)} {apos cpos pos px : Pos} {x name : Str} {id : String} {r : V → List V → Hp → VK → Prop} {g : Mu}
theorem tyL {K : PySem.W.Frag} {F H : Hp} {v : V} {o : Bool} {xs : List Val} (hF : Le F H) (p : Pk F H v (.lst o xs)) : tyV K "list" v H := by
  obtain ⟨a, us, rfl, ha, _⟩ := p.lst hF
  exact .inl ⟨rfl, us, .of ha⟩
theorem mMeth_go {mg : MG} {r : V → List V → Hp → VK → Prop} {g : Mu} (hv : VMut r g) {K : PySem.W.Frag} {i : Nat} {σ : St} {H : Hp} {Q : VK} (h : tV mg k W (mMeth g i fs) σ H Q) : ∃ v, σ[i]? = some (some v) ∧ tyV K "list" v H ∧ tVs mg k W fs σ H fun us H2 => r v us H2 Q := by
  obtain ⟨B, F, ρ, τ, θ, s, hk, p⟩ := h
  unfold mMeth at p
  split at p
  case h_2 => exact p.elim
  case h_1 o xs0 q0 =>
  obtain ⟨v, ev, pk⟩ := s.get (join_some q0)
  refine ⟨v, ev, tyL s.FH pk, B, F, ρ, τ, θ, s, hk, (Post.bind p).imp fun ws ρ1 p1 us F1 H1 el s1 => ?_⟩
  split at p1
  case h_2 => exact p1.elim
  case h_1 xs q1 =>
  split at p1
  case h_2 => exact p1.elim
  case h_1 res xs' q2 =>
  exact hv B F1 H1 σ ρ1 τ θ i us ws xs xs' res v Q el s1 (join_some q1) ev q2 p1
theorem dv_meth (i : Nat) (slot : Slot "list" name id) (hty : typeOf (.builtin id) = pure (.type "method_descriptor")) (hm : MtR X id r) (hv : VMut r g) (ha : DVs X k W (e :: es) fs)
    (hN : X.N[i]? = some x := by rfl) (hvi : Vis X.env.scope x := by first | exact Or.inl rfl | exact Or.inr (Or.inl rfl) | exact Or.inr (Or.inr rfl)) (hd : (x == ("__debug__" : Str)) = false := by decide)
    (hcd : (x == ("__classdict__" : Str)) = false := by decide)
    (hbase : attributeBase (.Name x px) name X.env (eval (.Name x px) X.env) = eval (.Name x px) X.env := by rfl)
    (hfew : ((backTo cpos (starEach (e :: es) X.env)).all (fun x => !x.1) && (backToKw cpos (keywordEach [] X.env)).all (fun x => x.1.isSome)
      && decide ((e :: es).length + ([] : List Keyword).length + (if ([] : List Keyword).isEmpty then 0 else 1) < 30)) = true := by rfl)
    (hline : (apos.endLine == cpos.line) = true := by rfl) (hs : starEach (e :: es) X.env = (false, eval e X.env) :: starEach es X.env := by rfl) (hplain : (backTo cpos (starEach es X.env)).any (·.1) = false := by rfl) :
    DV X k W (.Call (.Attribute (.Name x px) name apos) (e :: es) [] cpos) (mMeth g i fs) := peImp (pe_bm F.plainAttrs_list slot hty hm (pe_var hN hvi hd hcd) ha hbase hfew hline hs hplain) fun σ H Q h => by
  obtain ⟨v, ev, ty, q⟩ := mMeth_go (K := X.K) hv h
  exact ⟨v, ev, ty, q⟩
theorem dv_meth0 (i : Nat) (slot : Slot "list" name id) (hty : typeOf (.builtin id) = pure (.type "method_descriptor")) (hm : MtR X id r) (hv : VMut r g)
    (hN : X.N[i]? = some x := by rfl) (hvi : Vis X.env.scope x := by first | exact Or.inl rfl | exact Or.inr (Or.inl rfl) | exact Or.inr (Or.inr rfl)) (hd : (x == ("__debug__" : Str)) = false := by decide)
    (hcd : (x == ("__classdict__" : Str)) = false := by decide)
    (hbase : attributeBase (.Name x px) name X.env (eval (.Name x px) X.env) = eval (.Name x px) X.env := by rfl) (hline : (apos.endLine == cpos.line) = true := by rfl) :
    DV X k W (.Call (.Attribute (.Name x px) name apos) [] [] cpos) (mMeth g i msNil) := peImp (pe_bm0 F.plainAttrs_list slot hty hm (pe_var hN hvi hd hcd) hbase hline) fun σ H Q h => by
  obtain ⟨v, ev, ty, B, F, ρ, τ, θ, s, hk, p⟩ := mMeth_go (K := X.K) hv h
  exact ⟨v, ev, ty, p [] F H rfl s⟩
end

/-! ### x[i] = e -/
def putL {κ : Type} [DecidableEq κ] (ks : List κ) (ws : List Val) (k : κ) (w : Val) : List κ × List Val :=
  if k ∈ ks then (ks, (ks.zip ws).map fun p => if p.1 = k then w else p.2) else (ks ++ [k], ws ++ [w])
def putW (x i w : Val) : Option Val := match x with
  | .lst true xs => (match i with
    | .int j => (ixN xs.length j).map fun k => .lst true (xs.set k w)
    | _ => none)
  | .dT true ks ws => (match i with
    | .tup kw => (keysV kw).bind fun k => if (noOwn w && noOwns ws) = true ∧ ks.length < sizeLine then some (.dT true (putL ks ws k w).1 (putL ks ws k w).2) else none
    | _ => none)
  | .dK true ks ws => (keyV i).bind fun k => if (noOwn w && noOwns ws) = true ∧ ks.length < sizeLine then some (.dK true (putL ks ws k w).1 (putL ks ws k w).2) else none
  | _ => none
theorem zip_map_snd {κ : Type} {α β : Type} (f : κ → α → β) : ∀ (ks : List κ) (us : List α), ks.length = us.length → ks.zip ((ks.zip us).map fun p => f p.1 p.2) = (ks.zip us).map fun p => (p.1, f p.1 p.2)
  | [], [], _ => rfl
  | [], _ :: _, e => by simp at e
  | _ :: _, [], e => by simp at e
  | k :: ks, u :: us, e => by
    simp only [List.zip_cons_cons, List.map_cons]
    rw [zip_map_snd f ks us (by simpa using e)]
theorem any_zip {κ : Type} [DecidableEq κ] {k : κ} : ∀ {ks : List κ} {us : List V}, ks.length = us.length → ((ks.zip us).any fun kv => decide (kv.1 = k)) = decide (k ∈ ks)
  | [], [], _ => by simp
  | [], _ :: _, e => by simp at e
  | _ :: _, [], e => by simp at e
  | a :: ks, u :: us, e => by
    simp only [List.zip_cons_cons, List.any_cons, List.mem_cons]
    rw [any_zip (by simpa using e)]
    by_cases h : a = k
    · subst h; simp
    · have : ¬ k = a := fun z => h z.symm
      simp [h, this]
theorem putL_rep {κ : Type} [DecidableEq κ] {F H : Hp} {k : κ} {u : V} {w : Val} {ks : List κ} {us : List V} {ws : List Val} (el : ks.length = us.length) (r : Reps F H us ws []) (ru : Rep F H u w []) :
    ∃ us', putK (ks.zip us) k u = (putL ks ws k w).1.zip us' ∧ (putL ks ws k w).1.length = us'.length ∧ Reps F H us' (putL ks ws k w).2 [] := by
  unfold putK putL
  rw [any_zip el]
  by_cases h : k ∈ ks
  · simp only [h, decide_true, if_true]
    refine ⟨(ks.zip us).map fun p => if p.1 = k then u else p.2, ?_, ?_, ?_⟩
    · rw [zip_map_snd (fun a b => if a = k then u else b) ks us el]
      apply List.map_congr_left
      intro p _
      split <;> simp_all
    · simp [el]
    · clear h
      have : ∀ (ks : List κ) (us : List V) (ws : List Val) (g : List Addr), g = [] → ks.length = us.length → Reps F H us ws g → Reps F H ((ks.zip us).map fun p => if p.1 = k then u else p.2) ((ks.zip ws).map fun p => if p.1 = k then w else p.2) [] := by
        intro ks
        induction ks with
        | nil => intro us ws g _ _ _; exact .nil
        | cons a ks ih =>
          intro us ws g eg e r
          cases r with
          | nil => simp at e
          | cons r1 r2 =>
            have e2 := List.append_eq_nil_iff.mp eg
            simp only [List.zip_cons_cons, List.map_cons]
            have t := ih _ _ _ e2.2 (by simpa using e) r2
            rw [e2.1] at r1
            by_cases ha : a = k
            · simp only [ha, if_true]; exact .cons (f1 := []) (f2 := []) ru t
            · simp only [ha, if_false]; exact .cons (f1 := []) (f2 := []) r1 t
      exact this ks us ws [] rfl el r
  · simp only [h, decide_false, if_false, Bool.false_eq_true]
    refine ⟨us ++ [u], ?_, by simp [el], r.append (.cons (f1 := []) (f2 := []) ru .nil)⟩
    rw [List.zip_append el]; rfl
def sPut (i : Nat) (fi fv : M Val) : G := fun ρ => rS (fv ρ) fun w ρ1 => match (ρ1[i]?).join with
  | none => .bad
  | some _ => rS (fi ρ1) fun iw ρ2 => match (ρ2[i]?).join with
    | none => .bad
    | some x => match putW x iw w with
      | some x' => .nx (ρ2.set i (some x'))
      | none => .bad
section
variable {X : Cx} {k : Nat} {W : WX} {e ie : Expr} {fi fv : M Val} {px spos pos : Pos} {x : Str}
theorem isL_or (w : Val) : (∃ o xs, w = .lst o xs) ∨ ¬ ∃ o xs, w = .lst o xs := Classical.em _
/-- where the store is into a list, and where into a dict, is told ahead by the denotation -/
theorem ds_put (i : Nat) (hu : X.A.units + 1 < cLine) (hv : DV X k W e fv) (hi : DV X k W ie fi)
    (hN : X.N[i]? = some x := by rfl) (hvi : Vis X.env.scope x := by first | exact Or.inl rfl | exact Or.inr (Or.inl rfl) | exact Or.inr (Or.inr rfl)) (hd : (x == ("__debug__" : Str)) = false := by decide)
    (hcd : (x == ("__classdict__" : Str)) = false := by decide) (hs : swapsWith e (some (.Subscript (.Name x px) ie spos)) pos.line X.env = pure false := by rfl)
    (hs1 : swapsWithSole [.Subscript (.Name x px) ie spos] e pos.line X.env = pure false := by rfl) (hw : swappedStores [.Subscript (.Name x px) ie spos] e X.env = pure none := by rfl)
    (h1 : (assignEach [.Subscript (.Name x px) ie spos] X.env).map (·.2) = [assign (.Subscript (.Name x px) ie spos) X.env] := by rfl)
    (ha : ∀ v, assign (.Subscript (.Name x px) ie spos) X.env v = (do
      let ov ← holding [v] (eval (.Name x px) X.env)
      let iv ← holding [v, ov] (eval ie X.env)
      standAt spos
      holding [v, ov, iv] (setItem ov iv v)
      release [v, ov, iv] []) := by intro _; rfl) :
    DS X k W (.Assign [.Subscript (.Name x px) ie spos] e pos) (sPut i fi fv) := psCase fun D σ H ⟨B, F, ρ, τ, θ, s, hk, p⟩ => by
  have pv := pe_var (X := X) (pos := px) hN hvi hd hcd
  -- what stands in the slot when the store comes
  have kind : (∃ w ρ1 iw ρ2 o xs, fv ρ = .ok w ρ1 ∧ fi ρ1 = .ok iw ρ2 ∧ (ρ2[i]?).join = some (.lst o xs)) ∨ ¬ ∃ w ρ1 iw ρ2 o xs, fv ρ = .ok w ρ1 ∧ fi ρ1 = .ok iw ρ2 ∧ (ρ2[i]?).join = some (.lst o xs) := Classical.em _
  have common : ∀ {t : V → V → V → Hp → (Hp → Prop) → Prop}, (∀ w ρ1 iw ρ2 xw x', fv ρ = .ok w ρ1 → fi ρ1 = .ok iw ρ2 → (ρ2[i]?).join = some xw → putW xw iw w = some x' → ∀ (v u iu : V) F2 H2, σ[i]? = some (some v) → SR B F2 H2 σ ρ2 (some iu :: some u :: τ) (some iw :: some w :: θ) →
      (∀ H', SR B F2 H' σ (ρ2.set i (some x')) τ θ → D.nx σ H') → t v iu u H2 fun H3 => D.nx σ H3) → tV X.mg k W fv σ H fun u H1 => tVar i σ H1 fun v H2 => tV X.mg k W fi σ H2 fun iu H3 => t v iu u H3 fun H4 => D.nx σ H4 := fun {t} kt => by
    refine ⟨B, F, ρ, τ, θ, s, hk, ?_⟩
    unfold sPut at p
    cases qv : fv ρ with
    | bad => rw [qv] at p; exact p.elim
    | err c pl ρ1 => rw [qv] at p; exact fun C d F' H' e1 s1 r1 => p C d σ F' H' e1 s1 r1
    | ok w ρ1 =>
      rw [qv] at p
      simp only [rS_ok] at p
      intro u F1 H1 s1
      cases q1 : (ρ1[i]?).join with
      | none => rw [q1] at p; exact p.elim
      | some x0 =>
        rw [q1] at p
        obtain ⟨v, ev, _⟩ := s1.get (join_some q1)
        refine ⟨v, ev, B, F1, ρ1, some u :: τ, some w :: θ, s1, hk, ?_⟩
        cases qi : fi ρ1 with
        | bad => rw [qi] at p; exact p.elim
        | err c pl ρ2 => rw [qi] at p; exact fun C d F' H' e1 s2 r1 => p C d σ F' H' e1 s2.pop r1
        | ok iw ρ2 =>
          rw [qi] at p
          simp only [rS_ok] at p
          intro iu F2 H2 s2
          cases q2 : (ρ2[i]?).join with
          | none => rw [q2] at p; exact p.elim
          | some xw =>
            rw [q2] at p
            dsimp only at p
            cases q3 : putW xw iw w with
            | none => rw [q3] at p; exact p.elim
            | some x' =>
              rw [q3] at p
              exact kt w ρ1 iw ρ2 xw x' qv qi q2 q3 v u iu F2 H2 ev s2 fun H' s' => p σ F2 H' s'
  rcases kind with ⟨w, ρ1, iw, ρ2, o, xs, qv, qi, q2⟩ | nk
  · -- a list
    refine ⟨_, ps_asg hv (pg_sub pv hi set_list ha) hs1 hw h1, common fun w' ρ1' iw' ρ2' xw x' qv' qi' q2' q3 v u iu F2 H2 ev s2 kk => ?_⟩
    rw [qv] at qv'; cases qv'
    rw [qi] at qi'; cases qi'
    rw [q2] at q2'; cases q2'
    cases o with
    | false => simp [putW] at q3
    | true =>
      cases iw with
      | int j =>
        simp only [putW, Option.map_eq_some_iff] at q3
        obtain ⟨kx, e1, e2⟩ := q3
        subst e2
        obtain ⟨a, vs, ga, gus, ev', hA, rv, rus, km⟩ := SR.openL (us := [iu, u]) (ws := [.int j, w]) rfl s2 (join_some q2)
        rw [ev] at ev'; cases ev'
        cases rus with
        | @cons _ _ _ _ g1 g2 r1 r2 =>
          cases r1
          cases r2 with
          | @cons _ _ _ _ g3 g4 r3 r4 =>
            cases r4
            obtain ⟨g', r', c'⟩ := Reps.setE r3 kx rv
            refine ⟨a, vs, j, kx, rfl, rfl, hA, by rw [rv.length]; exact e1, ?_⟩
            exact kk _ (km _ _ g' .non .non [] r' .non fun b => by have := c' b; simp only [List.count_append, List.count_nil] at *; omega).pop
      | _ => simp [putW] at q3
  · -- a dict, or nothing that is met
    refine ⟨_, ps_dput hu pv hi hv hs, common (t := fun x y v H3 Q => ∃ a H4, x = .ref a ∧ DPut H3 a y v H4 ∧ Q H4) fun w' ρ1' iw' ρ2' xw x' qv' qi' q2' q3 v u iu F2 H2 ev s2 kk => ?_⟩
    have key : ∀ (a : Addr) (HH : Hp), v = .ref a → DPut H2 a iu u HH → D.nx σ HH → ∃ a H4, v = .ref a ∧ DPut H2 a iu u H4 ∧ D.nx σ H4 := fun a HH e1 e2 e3 => ⟨a, HH, e1, e2, e3⟩
    obtain ⟨v', g, gus, ev', rx, rus, c1, km⟩ := SR.open (us := [iu, u]) (ws := [iw', w']) (a := 0) (gi := []) rfl s2 (join_some q2')
    rw [ev] at ev'; cases ev'
    cases rus with
    | @cons _ _ _ _ g1 g2 r1 r2 =>
    cases r2 with
    | @cons _ _ _ _ g3 g4 r3 r4 =>
    cases r4
    cases xw with
    | lst o xs => exact absurd ⟨w', ρ1', iw', ρ2', o, xs, qv', qi', q2'⟩ nk
    | dT o ks ws =>
      cases o with
      | false => simp [putW] at q3
      | true =>
        cases iw' with
        | tup kw =>
          simp only [putW, Option.bind_eq_some_iff] at q3
          obtain ⟨kk', e1, e2⟩ := q3
          split at e2
          case isFalse => cases e2
          case isTrue hc =>
          cases e2
          simp only [Bool.and_eq_true] at hc
          cases rx with
          | @tow a _ xs _ gx hA hl rxs =>
          have := rxs.nofp hc.1.2
          subst this
          have := r3.nofp hc.1.1
          subst this
          cases r1 with
          | @tup b ts _ _ hb rts =>
          have ek := keysV_rep e1 rts
          subst ek
          obtain ⟨us', e3, e4, e5⟩ := putL_rep (k := kk') hl rxs r3
          refine key a _ rfl (DPut.t hA (s2.FH _ _ hb) (by rw [List.length_zip, hl]; rw [hl] at hc; simpa using hc.2)) (kk _ ?_)
          have na : ∀ {g : List Addr}, g = [] → ∀ c ∈ g, (L2.upd H2 a (.dT (putK (ks.zip xs) kk' u))) c = H2 c := fun e c hcm => by subst e; cases hcm
          exact (km (g' := [a]) (v2 := .non) (w2 := .non) (gv := []) List.mem_cons_self (fun z e => by rw [hA] at e; cases e) (.tow (xs := us') (by rw [upd_same, e3]) e4 (e5.mono (.refl _) (na rfl))) .non (fun c => by simp only [List.count_nil]; omega)).pop
        | _ => simp [putW] at q3
    | dK o ks ws =>
      cases o with
      | false => simp [putW] at q3
      | true =>
        have q3' : ((keyV iw').bind fun k => if (noOwn w' && noOwns ws) = true ∧ ks.length < sizeLine then some (.dK true (putL ks ws k w').1 (putL ks ws k w').2) else none) = some x' := by cases iw' <;> exact q3
        simp only [Option.bind_eq_some_iff] at q3'
        obtain ⟨kk', e1, e2⟩ := q3'
        split at e2
        case isFalse => cases e2
        case isTrue hc =>
        cases e2
        simp only [Bool.and_eq_true] at hc
        cases rx with
        | @kow a _ xs _ gx hA hl rxs =>
        have := rxs.nofp hc.1.2
        subst this
        have := r3.nofp hc.1.1
        subst this
        have ek := keyV_rep e1 r1
        subst ek
        obtain ⟨us', e3, e4, e5⟩ := putL_rep (k := kk') hl rxs r3
        refine key a _ rfl (DPut.k hA (by rw [List.length_zip, hl]; rw [hl] at hc; simpa using hc.2)) (kk _ ?_)
        have na : ∀ {g : List Addr}, g = [] → ∀ c ∈ g, (L2.upd H2 a (.dK (putK (ks.zip xs) kk' u))) c = H2 c := fun e c hcm => by subst e; cases hcm
        exact (km (g' := [a]) (v2 := .non) (w2 := .non) (gv := []) List.mem_cons_self (fun z e => by rw [hA] at e; cases e) (.kow (xs := us') (by rw [upd_same, e3]) e4 (e5.mono (.refl _) (na rfl))) .non (fun c => by simp only [List.count_nil]; omega)).pop
    | _ => simp [putW] at q3
end
end L2.DL

namespace L2.DL
open L2 PyProof.Rows PySem.Spec PySem

/-! ### list(), tuple() -/
def keyW : Key → Val
  | .inl i => .int i
  | .inr s => .str s
theorem keyW_rep {F H : Hp} : ∀ k : Key, Rep F H (kV k) (keyW k) []
  | .inl i => .int i
  | .inr s => .str s
theorem keysW_rep {F H : Hp} : ∀ ks : List Key, Reps F H (ks.map kV) (ks.map keyW) []
  | [] => .nil
  | k :: ks => .cons (f1 := []) (f2 := []) (keyW_rep k) (keysW_rep ks)
def oList (ws : List Val) : Option Val := match ws with
  | [.lst _ ws] => if noOwns ws = true then some (.lst true ws) else none
  | [.tup ws] => if noOwns ws = true then some (.lst true ws) else none
  | [.tpz ws] => if noOwns ws = true then some (.lst true ws) else none
  | [.dK _ ks _] => some (.lst true (ks.map keyW))
  | [.dT _ ks _] => some (.lst true (ks.map fun k => .tup (k.map keyW)))
  | _ => none
def rListAll (K : PySem.W.Frag) : List V → Hp → VK → Prop := fun xs H Q => (∃ p ys, xs = [.ref p] ∧ (SqL K H p ys ∨ SqT K H p ys) ∧ ∀ l, H l = none → Q (.ref l) (upd H l (.lst ys))) ∨ rListD xs H Q ∨
  (∃ d kvs, xs = [V.ref d] ∧ Rd H d (.dT kvs) ∧ ∀ p bs, H p = none → IsKeys H kvs bs → Q (.ref p) (upd H p (.lst (bs.map V.ref))))
theorem call_listAll {X : Cx} (hc : X.calm = true) : CallR X (.type "list") (rListAll X.K) := CallR.or call_list_of (CallR.or (call_list_dK hc) (call_list_dT hc))
theorem zip_keys {κ : Type} : ∀ {ks : List κ} {us : List V}, ks.length = us.length → (ks.zip us).map (·.1) = ks
  | [], _, _ => by simp
  | _ :: _, [], e => by simp at e
  | k :: ks, u :: us, e => by simp [zip_keys (ks := ks) (us := us) (by simpa using e)]
/-- the keys' own tuples are never changed -/
theorem keys_ext {F H : Hp} (hF : Le F H) : ∀ {ks : List (List Key)} {bs : List Addr}, Paired (fun (p : List Key) b => H b = some (.tup (p.map kV))) ks bs → ∃ F', Ext F H F' H ∧ Reps F' H (bs.map V.ref) (ks.map fun k => .tup (k.map keyW)) []
  | _, _, .nil => ⟨F, .refl hF, .nil⟩
  | k :: ks, b :: bs, .cons h t => by
    obtain ⟨F1, x1, r1⟩ := keys_ext hF t
    refine ⟨L2.upd F1 b (.tup (k.map kV)), ⟨.refl _, fun a o e => ?_, fun a o e => ?_, fun a e => ?_⟩, .cons (f1 := []) (f2 := []) (.tup upd_same (keysW_rep k)) (r1.mono (fun a o e => ?_) fun a ha => by cases ha)⟩
    · by_cases z : a = b
      · subst z; have := hF a o e; rw [h] at this; cases this; exact upd_same
      · rw [upd_ne z]; exact x1.leF a o e
    · by_cases z : a = b
      · subst z; rw [upd_same] at e; cases e; exact h
      · rw [upd_ne z] at e; exact x1.FH a o e
    · by_cases z : a = b
      · subst z; exact .inr (.inr ⟨_, upd_same⟩)
      · rw [upd_ne z] at e
        rcases x1.new a e with y | y | ⟨xs, y⟩
        · exact .inl y
        · exact .inr (.inl y)
        · exact .inr (.inr ⟨xs, by rw [upd_ne z]; exact y⟩)
    · by_cases z : a = b
      · subst z; have := x1.FH a o e; rw [h] at this; cases this; exact upd_same
      · rw [upd_ne z]; exact e
theorem isKeys_zip {H : Hp} {ks : List (List Key)} {us : List V} {bs : List Addr} (el : ks.length = us.length) (h : IsKeys H (ks.zip us) bs) : Paired (fun (p : List Key) b => H b = some (.tup (p.map kV))) ks bs := by
  induction ks generalizing us bs with
  | nil => cases h; exact .nil
  | cons k ks ih =>
    cases us with
    | nil => simp at el
    | cons u us =>
      cases h with
      | cons h1 h2 => exact .cons h1 (ih (by simpa using el) h2)
theorem vlist {K : PySem.W.Frag} : VOpS (rListAll K) oList := fun F H xs ws w Q hF p e k => by
  match ws, e with
  | [.lst o vs], e =>
    simp only [oList] at e
    split at e
    case isFalse => cases e
    case isTrue n =>
    cases e
    obtain ⟨u, rfl, pu⟩ := p.one
    obtain ⟨a, us, rfl, ha, pus⟩ := pu.lst hF
    refine .inl ⟨a, us, rfl, .inl (.of ha), fun l nl => ?_⟩
    obtain ⟨x1, n1⟩ := Nw.lst hF nl (pus.no n)
    exact k _ _ _ x1 n1
  | [.tup vs], e =>
    simp only [oList] at e
    split at e
    case isFalse => cases e
    case isTrue n =>
    cases e
    obtain ⟨u, rfl, pu⟩ := p.one
    obtain ⟨a, us, rfl, ha, pus⟩ := pu.tup
    refine .inl ⟨a, us, rfl, .inr (.of (hF _ _ ha)), fun l nl => ?_⟩
    obtain ⟨x1, n1⟩ := Nw.lst hF nl (pus.no n)
    exact k _ _ _ x1 n1
  | [.tpz vs], e =>
    simp only [oList] at e
    split at e
    case isFalse => cases e
    case isTrue n =>
    cases e
    obtain ⟨u, rfl, pu⟩ := p.one
    obtain ⟨a, ob, us, rfl, ha, h0, pus⟩ := pu.tpz
    refine .inl ⟨a, us, rfl, .inr (.inl (.inr ⟨_, hF _ _ ha⟩)), fun l nl => ?_⟩
    obtain ⟨x1, n1⟩ := Nw.lst hF nl (pus.no n)
    exact k _ _ _ x1 n1
  | [.dK o ks vs], e =>
    cases e
    obtain ⟨u, rfl, g, pu⟩ := p.one
    obtain ⟨a, us, rfl, ha, el⟩ : ∃ a us, u = .ref a ∧ H a = some (.dK (ks.zip us)) ∧ ks.length = us.length := by
      cases pu with
      | ksh h1 hl h2 => exact ⟨_, _, rfl, hF _ _ h1, hl⟩
      | kow h1 hl h2 => exact ⟨_, _, rfl, h1, hl⟩
    refine .inr (.inl ⟨a, _, rfl, ha, fun l nl => ?_⟩)
    have e1 : ((ks.zip us).map fun kv => kV kv.1) = ks.map kV := by
      rw [show ((ks.zip us).map fun kv => kV kv.1) = ((ks.zip us).map (·.1)).map kV by rw [List.map_map]; rfl, zip_keys el]
    rw [e1]
    obtain ⟨x1, n1⟩ := Nw.lst hF nl (keysW_rep ks)
    exact k _ _ _ x1 n1
  | [.dT o ks vs], e =>
    cases e
    obtain ⟨u, rfl, g, pu⟩ := p.one
    obtain ⟨a, us, rfl, ha, el⟩ : ∃ a us, u = .ref a ∧ H a = some (.dT (ks.zip us)) ∧ ks.length = us.length := by
      cases pu with
      | tsh h1 hl h2 => exact ⟨_, _, rfl, hF _ _ h1, hl⟩
      | tow h1 hl h2 => exact ⟨_, _, rfl, h1, hl⟩
    refine .inr (.inr ⟨a, _, rfl, .inl ha, fun l bs nl ik => ?_⟩)
    obtain ⟨F1, x1, r1⟩ := keys_ext hF (isKeys_zip el ik)
    obtain ⟨x2, n2⟩ := Nw.lst x1.FH nl r1
    exact k _ _ _ (x1.trans x2) (n2.ext x1 x2)
def oTuple (ws : List Val) : Option Val := match ws with
  | [.lst _ ws] => if noOwns ws = true then some (.tup ws) else none
  | [.tup ws] => if noOwns ws = true then some (.tup ws) else none
  | _ => none
theorem vtuple {K : PySem.W.Frag} : VOpS (fun xs H Q => ∃ p ys, xs = [.ref p] ∧ ((SqL K H p ys ∧ ∀ l, H l = none → Q (.ref l) (upd H l (.tup ys))) ∨ (SqT K H p ys ∧ Q (.ref p) H))) oTuple := fun F H xs ws w Q hF p e k => by
  match ws, e with
  | [.lst o vs], e =>
    simp only [oTuple] at e
    split at e
    case isFalse => cases e
    case isTrue n =>
    cases e
    obtain ⟨u, rfl, pu⟩ := p.one
    obtain ⟨a, us, rfl, ha, pus⟩ := pu.lst hF
    refine ⟨a, us, rfl, .inl ⟨.of ha, fun l nl => ?_⟩⟩
    obtain ⟨x1, n1⟩ := Nw.tup hF nl (pus.no n)
    exact k _ _ _ x1 n1
  | [.tup vs], e =>
    simp only [oTuple] at e
    split at e
    case isFalse => cases e
    case isTrue n =>
    cases e
    obtain ⟨u, rfl, pu⟩ := p.one
    obtain ⟨a, us, rfl, ha, pus⟩ := pu.tup
    exact ⟨a, us, rfl, .inr ⟨.of (hF _ _ ha), k _ F H (.refl hF) (.of (.tup ha (pus.no n)))⟩⟩

/-! ### sorted(), of data -/
theorem sortsAt_short {prog : Program} {w : World} {A : Around} {s : Shared} {vs : List Value} {ds : List PyData} (e : PySem.W.EachIs (fun v d => ∃ as, Reads s.heap v d as) vs ds) (hal : PySem.W.AllAlike ds) (hk : PySem.W.Sortable ds ∨ ds.length ≤ 1) (hn : ∀ d ∈ ds, d ≠ .none) (hu : ∀ d, d ∈ ds → A.units + d.depth < cLine) : PySem.W.SortsAt prog w A s (PySem.W.dataKind s.heap ds) vs := by
  rcases hk with hk | h1
  · exact PySem.W.SortsAt.data e hal hk hu
  · refine ⟨fun v hv => ?_, general', fun E x y a b Q ha hb hq => ?_, fun h2 => ?_⟩
    · obtain ⟨d, hd, as, r⟩ := e.left v hv
      exact ⟨_, PySem.W.dataKind_some hal hd r⟩
    · obtain ⟨d, as, hd, ra, rfl⟩ := PySem.W.dataKind_inv ha
      obtain ⟨d', as', hd', rb, rfl⟩ := PySem.W.dataKind_inv hb
      show wpAny _ _ (oneLt' false x y) _ _ _
      exact PySem.W.oneLt_alike (f := false) (fun z => by cases z) ra rb (hal d hd d' hd') (hn d hd) (Nat.lt_of_le_of_lt (Nat.add_le_add_left (Nat.min_le_left _ _) _) (hu d hd)) hq
    · have := e.length
      omega
def rSortedD (K : PySem.W.Frag) : List V → Hp → VK → Prop := fun vs H Q => ∃ a xs ds, vs = [.ref a] ∧ SqL K H a xs ∧ DpAll K H xs ds ∧ PySem.W.AllAlike ds ∧ (PySem.W.Sortable ds ∨ ds.length ≤ 1) ∧ (∀ d ∈ ds, d ≠ .none) ∧ (∀ d ∈ ds, d.depth ≤ 60) ∧
  ∀ p, H p = none → Q (.ref p) (upd H p (.lst (((xs.zip ds).mergeSort (PySem.W.dataLe false Prod.snd)).map Prod.fst)))
theorem dpAll_len {K : PySem.W.Frag} {H : Hp} : ∀ {xs : List V} {ds : List PyData}, DpAll K H xs ds → xs.length = ds.length
  | [], [], _ => rfl
  | [], _ :: _, h => by cases h
  | _ :: _, [], h => by cases h
  | x :: xs, d :: ds, h => by
    cases h with
    | cons h1 h2 => simp [dpAll_len h2]
theorem sorted_each {X : Cx} {pins : List (Addr × Obj)} {σ : St} {H : Hp} {s : Shared} (I : Inv X pins σ H s) : ∀ {xs : List V} {ds : List PyData} {its : List Value}, DpAll X.K H xs ds → Vals xs its →
    PySem.W.EachIs (fun (u : Value) (b : V × PyData) => RelV b.1 u) its (xs.zip ds) ∧ PySem.W.EachIs (fun (u : Value) (b : V × PyData) => ∃ as, Reads s.heap u b.2 as) its (xs.zip ds)
  | [], [], _, _, r => by cases r; exact ⟨.nil, .nil⟩
  | [], _ :: _, _, h, _ => by cases h
  | _ :: _, [], _, h, _ => by cases h
  | x :: xs, d :: ds, _, h, r => by
    cases h with
    | cons h1 h2 =>
      cases r with
      | cons r1 r2 =>
        obtain ⟨e1, e2⟩ := sorted_each I h2 r2
        exact ⟨.cons r1 e1, .cons (Dp.reads I d _ _ h1 r1) e2⟩
theorem each_vals {α : Type} {f : α → V} : ∀ {out : List Value} {bs : List α}, PySem.W.EachIs (fun (u : Value) (b : α) => RelV (f b) u) out bs → Vals (bs.map f) out
  | _, _, .nil => .nil
  | _, _, .cons h t => .cons h (each_vals t)
theorem cr_sortedD {X : Cx} (hu : X.A.units + 64 < cLine) : CallR X (.builtin "sorted") (rSortedD X.K) := by
  intro pins s σ H vs us Q I rv h
  obtain ⟨a, xs, ds, rfl, hS, hD, hal, hk, hn, hdp, q⟩ := h
  cases rv with
  | cons r1 r2 =>
  cases r2
  cases r1
  obtain ⟨its, rx, pl, hz⟩ := I.list hS
  obtain ⟨e1, e2⟩ := sorted_each I hD rx
  have hl := dpAll_len hD
  have em : (xs.zip ds).map Prod.snd = ds := by
    rw [List.map_snd_zip]; omega
  have e2' : PySem.W.EachIs (fun v b => ∃ as, Reads (PySem.W.sortingHeap (PySem.W.copyHeap s.heap its) (s.heap.objs.size + 1) its) v b.2 as) its (xs.zip ds) := e2.mono fun _ _ ⟨as, r⟩ => ⟨as, PyProof.Rows.Reads.keeps (fun _ _ => PySem.W.sorting_copy_old) r⟩
  have hlen : its.length = (xs.zip ds).length := e1.length
  have hal' : PySem.W.AllAlike ((xs.zip ds).map Prod.snd) := by rw [em]; exact hal
  refine PySem.W.sorted_vals pl.isList (sortsAt_short (s := { s with heap := PySem.W.sortingHeap (PySem.W.copyHeap s.heap its) (s.heap.objs.size + 1) its }) (PySem.W.each_map (R := fun v d => ∃ as, Reads (PySem.W.sortingHeap (PySem.W.copyHeap s.heap its) (s.heap.objs.size + 1) its) v d as) Prod.snd e2') hal' (by rw [em]; exact hk) (by rw [em]; exact hn) (fun d hd => ?_)) (by rw [← rx.length]; exact hz) ?_
  · rw [em] at hd
    have := hdp d hd
    show X.A.units + 1 + 1 + d.depth < cLine
    omega
  · obtain ⟨m, Fr0⟩ := I.fr
    have N0 : News X.base X.env.locals s.heap [] := fun p hp => by cases hp
    obtain ⟨c, _, N1, _, keep⟩ := PySem.W.sorted_news Fr0 N0 its (PySem.W.sortVals (PySem.W.dataKind (PySem.W.sortingHeap (PySem.W.copyHeap s.heap its) (s.heap.objs.size + 1) its) ((xs.zip ds).map Prod.snd)) false its its)
    have hD1 := (N1 _ List.mem_cons_self).1
    have se := PySem.W.sortVals_data (R := fun (u : Value) (b : V × PyData) => RelV b.1 u) false e1 e2' hal'
    have hp : s.heap.objs.size ≤ s.heap.objs.size + 1 := Nat.le_succ _
    refine ⟨.ref (s.heap.objs.size + 1), _, I.laid (a := s.heap.objs.size + 1) (t' := s.toks) keep hp ?_, rfl, q _ (I.hok.fresh hp)⟩
    refine ⟨?_, _, c, each_vals (f := Prod.fst) se, hD1⟩
    rw [List.length_map, List.length_mergeSort, ← hlen, ← rx.length]
    exact hz
def alikesB (ds : List PyData) : Bool := ds.all fun x => ds.all fun y => PySem.W.alike x y
def isTupC : PyData → Bool
  | .tuple (_ :: _) => true
  | _ => false
def notTN : PyData → Bool
  | .tuple _ => false
  | .none => false
  | _ => true
def notN : PyData → Bool
  | .none => false
  | _ => true
def sortOk (ds : List PyData) : Bool := alikesB ds && (ds.all isTupC || ds.all notTN || decide (ds.length ≤ 1)) && ds.all notN && ds.all fun d => decide (d.depth ≤ 60)
def sortW (ws : List Val) (ds : List PyData) : List Val := ((ws.zip ds).mergeSort (PySem.W.dataLe false Prod.snd)).map Prod.fst
def oSorted (ws : List Val) : Option Val := match ws with
  | [.lst _ ws] => if noOwns ws = true then (toPys ws).bind fun ds => if sortOk ds = true then some (.lst true (sortW ws ds)) else none else none
  | _ => none
theorem toPys_len : ∀ {ws : List Val} {ds : List PyData}, toPys ws = some ds → ws.length = ds.length
  | [], _, e => by cases e; rfl
  | w :: ws, _, e => by
    simp only [toPys, Option.bind_eq_some_iff, Option.map_eq_some_iff] at e
    obtain ⟨d, _, ds, e2, rfl⟩ := e
    simp [toPys_len e2]
theorem Reps.mems {F H : Hp} {α : Type} (f : α → V) (g : α → Val) : ∀ {l : List α}, (∀ x ∈ l, Rep F H (f x) (g x) []) → Reps F H (l.map f) (l.map g) []
  | [], _ => .nil
  | x :: l, h => .cons (f1 := []) (f2 := []) (h x List.mem_cons_self) (Reps.mems f g fun y hy => h y (List.mem_cons_of_mem _ hy))
theorem Reps.zipMem {F H : Hp} : ∀ {us : List V} {ws : List Val} {g : List Addr}, g = [] → Reps F H us ws g → ∀ p ∈ us.zip ws, Rep F H p.1 p.2 []
  | [], _, _, _, _, p, hp => by simp at hp
  | _ :: _, [], _, _, r, p, hp => by simp at hp
  | u :: us, w :: ws, _, eg, r, p, hp => by
    cases r with
    | cons r1 r2 =>
      have e := List.append_eq_nil_iff.mp eg
      simp only [List.zip_cons_cons, List.mem_cons] at hp
      rcases hp with rfl | hp
      · rw [e.1] at r1; exact r1
      · exact Reps.zipMem e.2 r2 p hp
theorem zip3 {α β γ : Type} : ∀ (xs : List α) (ws : List β) (ds : List γ), xs.length = ws.length → ws.length = ds.length → ((xs.zip ws).zip ds).map (fun p => (p.1.1, p.2)) = xs.zip ds ∧ ((xs.zip ws).zip ds).map (fun p => (p.1.2, p.2)) = ws.zip ds
  | [], [], [], _, _ => ⟨rfl, rfl⟩
  | x :: xs, w :: ws, d :: ds, h1, h2 => by
    obtain ⟨e1, e2⟩ := zip3 xs ws ds (by simpa using h1) (by simpa using h2)
    simp [e1, e2]
  | [], _ :: _, _, h, _ => by simp at h
  | _ :: _, [], _, h, _ => by simp at h
  | _, [], _ :: _, _, h => by simp at h
  | _, _ :: _, [], _, h => by simp at h
theorem sortW_rep {F H : Hp} {us : List V} {ws : List Val} {ds : List PyData} (r : Reps F H us ws []) (el : ws.length = ds.length) : Reps F H (((us.zip ds).mergeSort (PySem.W.dataLe false Prod.snd)).map Prod.fst) (sortW ws ds) [] := by
  obtain ⟨e1, e2⟩ := zip3 us ws ds r.length el
  have m1 := PySem.W.sort_maps (r := PySem.W.dataLe false fun p : (V × Val) × PyData => p.2) (s := PySem.W.dataLe false (Prod.snd : V × PyData → PyData)) (fun p : (V × Val) × PyData => (p.1.1, p.2)) (l := (us.zip ws).zip ds) fun _ _ _ _ => rfl
  have m2 := PySem.W.sort_maps (r := PySem.W.dataLe false fun p : (V × Val) × PyData => p.2) (s := PySem.W.dataLe false (Prod.snd : Val × PyData → PyData)) (fun p : (V × Val) × PyData => (p.1.2, p.2)) (l := (us.zip ws).zip ds) fun _ _ _ _ => rfl
  rw [e1] at m1
  rw [e2] at m2
  unfold sortW
  rw [← m1, ← m2, List.map_map, List.map_map]
  refine Reps.mems _ _ fun p hp => ?_
  have hp2 : p ∈ (us.zip ws).zip ds := List.mem_mergeSort.mp hp
  exact Reps.zipMem rfl r p.1 (List.of_mem_zip hp2).1
theorem vsorted {K : PySem.W.Frag} : VOpS (rSortedD K) oSorted := fun F H xs ws w Q hF p e k => by
  match ws, e with
  | [.lst o vs], e =>
    simp only [oSorted] at e
    split at e
    case isFalse => cases e
    case isTrue n =>
    simp only [Option.bind_eq_some_iff] at e
    obtain ⟨ds, e1, e2⟩ := e
    split at e2
    case isFalse => cases e2
    case isTrue hs =>
    cases e2
    simp only [sortOk, Bool.and_eq_true, Bool.or_eq_true, List.all_eq_true, decide_eq_true_eq, alikesB] at hs
    obtain ⟨⟨⟨h1, h2⟩, h3⟩, h4⟩ := hs
    obtain ⟨u, rfl, pu⟩ := p.one
    obtain ⟨a, us, rfl, ha, pus⟩ := pu.lst hF
    have ru := pus.no n
    refine ⟨a, us, ds, rfl, .of ha, ru.dp hF e1, fun d hd d' hd' => h1 d hd d' hd', ?_, fun d hd z => ?_, h4, fun l nl => ?_⟩
    · rcases h2 with (h2 | h2) | h2
      · refine .inl (.inl fun d hd => ?_)
        have := h2 d hd
        cases d with
        | tuple xs =>
          cases xs with
          | nil => simp [isTupC] at this
          | cons x r => exact ⟨x, r, rfl⟩
        | _ => simp [isTupC] at this
      · refine .inl (.inr fun d hd => ?_)
        have := h2 d hd
        cases d <;> simp [notTN] at this ⊢
      · exact .inr h2
    · have := h3 d hd
      subst z
      simp [notN] at this
    · obtain ⟨x1, n1⟩ := Nw.lst hF nl (sortW_rep ru (toPys_len e1))
      exact k _ _ _ x1 n1

/-! ### sum, all, any, min, max, str, int -/
def intsOf : List Val → Option (List Int)
  | [] => some []
  | .int i :: ws => (intsOf ws).map fun is => i :: is
  | _ :: _ => none
def blsOf : List Val → Option (List Bool)
  | [] => some []
  | .bl i :: ws => (blsOf ws).map fun is => i :: is
  | _ :: _ => none
def strsOf : List Val → Option (List Str)
  | [] => some []
  | .str i :: ws => (strsOf ws).map fun is => i :: is
  | _ :: _ => none
theorem intsOf_rep {F H : Hp} : ∀ {ws : List Val} {is : List Int} {us : List V} {g : List Addr}, intsOf ws = some is → Reps F H us ws g → us = is.map V.int
  | [], _, _, _, e, r => by cases e; cases r; rfl
  | w :: ws, _, _, _, e, r => by
    cases w <;> simp [intsOf] at e
    obtain ⟨is, e1, rfl⟩ := e
    cases r with
    | cons r1 r2 => cases r1; rw [intsOf_rep e1 r2]; rfl
theorem blsOf_rep {F H : Hp} : ∀ {ws : List Val} {is : List Bool} {us : List V} {g : List Addr}, blsOf ws = some is → Reps F H us ws g → us = is.map V.bl
  | [], _, _, _, e, r => by cases e; cases r; rfl
  | w :: ws, _, _, _, e, r => by
    cases w <;> simp [blsOf] at e
    obtain ⟨is, e1, rfl⟩ := e
    cases r with
    | cons r1 r2 => cases r1; rw [blsOf_rep e1 r2]; rfl
theorem strsOf_rep {F H : Hp} : ∀ {ws : List Val} {is : List Str} {us : List V} {g : List Addr}, strsOf ws = some is → Reps F H us ws g → us = is.map V.str
  | [], _, _, _, e, r => by cases e; cases r; rfl
  | w :: ws, _, _, _, e, r => by
    cases w <;> simp [strsOf] at e
    obtain ⟨is, e1, rfl⟩ := e
    cases r with
    | cons r1 r2 => cases r1; rw [strsOf_rep e1 r2]; rfl
def oSum : List Val → Option Val
  | [.lst _ ws] => (intsOf ws).map fun is => .int is.sum
  | _ => none
def oAll : List Val → Option Val
  | [.lst _ ws] => (blsOf ws).map fun is => .bl (is.all id)
  | _ => none
def oAny : List Val → Option Val
  | [.lst _ ws] => (blsOf ws).map fun is => .bl (is.any id)
  | _ => none
theorem vsum {K : PySem.W.Frag} : VOpS (rSum K) oSum := fun F H xs ws w Q hF p e k => by
  match ws, e with
  | [.lst o vs], e =>
    simp only [oSum, Option.map_eq_some_iff] at e
    obtain ⟨is, e1, rfl⟩ := e
    obtain ⟨u, rfl, pu⟩ := p.one
    obtain ⟨a, us, rfl, ha, g, r⟩ := pu.lst hF
    have := intsOf_rep e1 r
    subst this
    exact ⟨a, is, rfl, .of ha, k _ F H (.refl hF) (.of (.int _))⟩
theorem vall {K : PySem.W.Frag} : VOpS (rAll K) oAll := fun F H xs ws w Q hF p e k => by
  match ws, e with
  | [.lst o vs], e =>
    simp only [oAll, Option.map_eq_some_iff] at e
    obtain ⟨is, e1, rfl⟩ := e
    obtain ⟨u, rfl, pu⟩ := p.one
    obtain ⟨a, us, rfl, ha, g, r⟩ := pu.lst hF
    have := blsOf_rep e1 r
    subst this
    exact ⟨a, is, rfl, .of ha, k _ F H (.refl hF) (.of (.bl _))⟩
theorem vany {K : PySem.W.Frag} : VOpS (rAny K) oAny := fun F H xs ws w Q hF p e k => by
  match ws, e with
  | [.lst o vs], e =>
    simp only [oAny, Option.map_eq_some_iff] at e
    obtain ⟨is, e1, rfl⟩ := e
    obtain ⟨u, rfl, pu⟩ := p.one
    obtain ⟨a, us, rfl, ha, g, r⟩ := pu.lst hF
    have := blsOf_rep e1 r
    subst this
    exact ⟨a, is, rfl, .of ha, k _ F H (.refl hF) (.of (.bl _))⟩
def oMin : List Val → Option Val
  | [.int i, .int j] => some (.int (if j < i then j else i))
  | _ => none
def oMax : List Val → Option Val
  | [.int i, .int j] => some (.int (if j > i then j else i))
  | _ => none
theorem vmin : VOpS (fun xs H Q => ∃ i j, xs = [.int i, .int j] ∧ Q (.int (if j < i then j else i)) H) oMin := fun F H xs ws w Q hF p e k => by
  match ws, e with
  | [.int i, .int j], e =>
    cases e
    obtain ⟨u, v, rfl, pu, pv⟩ := p.two
    have := pu.int; subst this
    have := pv.int; subst this
    exact ⟨i, j, rfl, k _ F H (.refl hF) (.of (.int _))⟩
theorem vmax : VOpS (fun xs H Q => ∃ i j, xs = [.int i, .int j] ∧ Q (.int (if j > i then j else i)) H) oMax := fun F H xs ws w Q hF p e k => by
  match ws, e with
  | [.int i, .int j], e =>
    cases e
    obtain ⟨u, v, rfl, pu, pv⟩ := p.two
    have := pu.int; subst this
    have := pv.int; subst this
    exact ⟨i, j, rfl, k _ F H (.refl hF) (.of (.int _))⟩
def oStr : List Val → Option Val
  | [.int i] => if i.natAbs.log2 < 1920 then some (.str (Str.ofString (toString i))) else none
  | _ => none
theorem vstr : VOpS (fun xs H Q => ∃ i : Int, xs = [.int i] ∧ i.natAbs.log2 < 1920 ∧ Q (.str (toString i)) H) oStr := fun F H xs ws w Q hF p e k => by
  match ws, e with
  | [.int i], e =>
    simp only [oStr] at e
    split at e
    case isFalse => cases e
    case isTrue h =>
    cases e
    obtain ⟨u, rfl, pu⟩ := p.one
    have := pu.int; subst this
    exact ⟨i, rfl, h, k _ F H (.refl hF) (.of (.str _))⟩
def oInt1 : List Val → Option Val
  | [.int i] => some (.int i)
  | [.bl b] => some (.int (if b then 1 else 0))
  | [.str s] => if s.length ≤ 640 then (PySem.intText? s).map fun n => .int n else none
  | _ => none
def rInt1 : List V → Hp → VK → Prop := fun xs H Q => ((∃ i, xs = [.int i] ∧ Q (.int i) H) ∨ ∃ k, xs = [.bl k] ∧ Q (.int (if k then 1 else 0)) H) ∨ ∃ a n, xs = [.str a] ∧ PySem.intText? a = some n ∧ a.length ≤ 640 ∧ Q (.int n) H
theorem call_intAll {X : Cx} : CallR X (.type "int") rInt1 := CallR.or call_int1 call_int_str
theorem vint1 : VOpS rInt1 oInt1 := fun F H xs ws w Q hF p e k => by
  match ws, e with
  | [.int i], e =>
    cases e
    obtain ⟨u, rfl, pu⟩ := p.one
    have := pu.int; subst this
    exact .inl (.inl ⟨i, rfl, k _ F H (.refl hF) (.of (.int _))⟩)
  | [.bl b], e =>
    cases e
    obtain ⟨u, rfl, pu⟩ := p.one
    have := pu.bl; subst this
    exact .inl (.inr ⟨b, rfl, k _ F H (.refl hF) (.of (.int _))⟩)
  | [.str s], e =>
    simp only [oInt1] at e
    split at e
    case isFalse => cases e
    case isTrue h =>
    simp only [Option.map_eq_some_iff] at e
    obtain ⟨n, e1, rfl⟩ := e
    obtain ⟨u, rfl, pu⟩ := p.one
    have := pu.str; subst this
    exact .inr ⟨s, n, rfl, e1, h, k _ F H (.refl hF) (.of (.int _))⟩

/-! ### isinstance(x, T) -/
def tyName : Val → Option String
  | .non => some "NoneType" | .bl _ => some "bool" | .int _ => some "int" | .str _ => some "str"
  | .tup _ => some "tuple" | .tpz _ => some "tuple" | .lst _ _ => some "list" | .dT _ _ _ => some "dict" | .dK _ _ _ => some "dict"
  | _ => none
def pIsi (T : String) (f : P Val) : P Val := fun ρ => (f ρ).bind fun w => (tyName w).bind fun n => (kitB n T).map fun b => .bl b
theorem tyName_rep {K : PySem.W.Frag} {F H : Hp} {u : V} {w : Val} {n : String} (hF : Le F H) (p : Pk F H u w) (e : tyName w = some n) : TyX K H u (.type n) := by
  obtain ⟨g, r⟩ := p
  cases r <;> simp [tyName] at e <;> subst e
  · exact .base .non
  · exact .base (.bl _)
  · exact .base (.int _)
  · exact .base (.str _)
  · rename_i h _; exact .base (.tup (hF _ _ h))
  · rename_i h _; exact .base (.lst (hF _ _ h))
  · rename_i h _; exact .base (.lst h)
  · rename_i h _ _; exact .base (.dT (hF _ _ h))
  · rename_i h _ _; exact .base (.dT h)
  · rename_i h _ _; exact .base (.dK (hF _ _ h))
  · rename_i h _ _; exact .base (.dK h)
  · rename_i h _ _; exact .fTuple (hF _ _ h)
section
variable {X : Cx} {a : Expr} {f : P Val} {p q pos : Pos}
theorem df_isi {x : Str} (T : String) (hg : Gl X "isinstance") (hm : X.mg "isinstance" = none) (hg2 : Gl X x) (hm2 : X.mg x = none) (hb : bootBuiltins x = some (.type T)) (ha : DP X a f) (hn : x ≠ "__name__" := by decide) (hd : (x == ("__debug__" : Str)) = false := by decide)
    (hbi : bootBuiltins "isinstance" = some (.builtin "isinstance") := by decide +kernel)
    (he : starEach [a, .Name x q] X.env = (false, eval a X.env) :: starEach [.Name x q] X.env := by rfl) (he2 : starEach [.Name x q] X.env = (false, eval (.Name x q) X.env) :: starEach [] X.env := by rfl) (hpl : (backTo pos (starEach [.Name x q] X.env)).any (·.1) = false := by rfl) :
    DF X (.Call (.Name "isinstance" p) [a, .Name x q] [] pos) (pIsi T f) := peImp (pe_callB call_isi hg hm hbi (pa_cons ha (pa_cons (pe_bltn (v := .ty T) hg2 hm2 hb rfl hn hd) pa_nil he2) he) (by decide) (by decide) he hpl) fun σ H Q ⟨F, ρ, fp, hF, r, w, ew, k⟩ => by
  simp only [pIsi, Option.bind_eq_some_iff, Option.map_eq_some_iff] at ew
  obtain ⟨x, e1, n, e2, b, e3, e4⟩ := ew
  subst e4
  refine ⟨F, ρ, fp, hF, r, x, e1, fun u F1 H1 x1 p1 => ?_⟩
  exact ⟨u, .ty T, .type n, .type T, b, rfl, .ty T, tyName_rep x1.FH p1 e2, kit_ty e3, k _ F1 H1 x1 (.of (.bl _))⟩
end

/-! ### methods that only look -/
def VMet (r : V → List V → Hp → VK → Prop) (g : Val → List Val → Option Val) : Prop := ∀ (F H : Hp) (x : V) (us : List V) (wx : Val) (ws : List Val) (w : Val) (Q : VK), Le F H → Pk F H x wx → PkS F H us ws → g wx ws = some w → (∀ u F' H', Ext F H F' H' → Nw F' H H' u w → Q u H') → r x us H Q
def pMet (T : Val → Bool) (g : Val → List Val → Option Val) (fo : P Val) (fs : P (List Val)) : P Val := fun ρ => (fo ρ).bind fun x => if T x = true then (fs ρ).bind fun ws => g x ws else none
def mMet (T : Val → Bool) (g : Val → List Val → Option Val) (fo : M Val) (fs : M (List Val)) : M Val := fun ρ => (fo ρ).bind fun x ρ1 => if T x = true then (fs ρ1).bind fun ws ρ2 => match g x ws with
  | some w => .ok w ρ2
  | none => .bad else .bad
def isStr : Val → Bool
  | .str _ => true
  | _ => false
section
variable {X : Cx} {k : Nat} {W : WX} {o e : Expr} {es : List Expr} {fo : P Val} {fs : P (List Val)} {apos cpos : Pos} {name : Str} {T id : String} {r : V → List V → Hp → VK → Prop} {g : Val → List Val → Option Val} {TB : Val → Bool}
def TyOk (K : PySem.W.Frag) (T : String) (TB : Val → Bool) : Prop := ∀ (F H : Hp) (u : V) (w : Val), Le F H → Pk F H u w → TB w = true → tyV K T u H
theorem ty_str {K : PySem.W.Frag} : TyOk K "str" isStr := fun F H u w hF p h => by
  cases w <;> simp [isStr] at h
  have := p.str; subst this; rfl
theorem ty_lst {K : PySem.W.Frag} : TyOk K "list" isLst := fun F H u w hF p h => by
  cases w <;> simp [isLst] at h
  exact tyL hF p
theorem df_met (hT : TyOk X.K T TB) (pa : PlainAttrs T) (slot : Slot T name id) (hty : typeOf (.builtin id) = pure (.type "method_descriptor")) (hm : MtR X id r) (hv : VMet r g) (ho : DP X o fo) (ha : DPs X (e :: es) fs)
    (hbase : attributeBase o name X.env (eval o X.env) = eval o X.env := by rfl)
    (hfew : ((backTo cpos (starEach (e :: es) X.env)).all (fun x => !x.1) && (backToKw cpos (keywordEach [] X.env)).all (fun x => x.1.isSome)
      && decide ((e :: es).length + ([] : List Keyword).length + (if ([] : List Keyword).isEmpty then 0 else 1) < 30)) = true := by rfl)
    (hline : (apos.endLine == cpos.line) = true := by rfl) (hs : starEach (e :: es) X.env = (false, eval e X.env) :: starEach es X.env := by rfl) (hplain : (backTo cpos (starEach es X.env)).any (·.1) = false := by rfl) :
    DF X (.Call (.Attribute o name apos) (e :: es) [] cpos) (pMet TB g fo fs) := peImp (pe_bm pa slot hty hm ho ha hbase hfew hline hs hplain) fun σ H Q ⟨F, ρ, fp, hF, rr, w, ew, kk⟩ => by
  simp only [pMet, Option.bind_eq_some_iff] at ew
  obtain ⟨x, e1, e2⟩ := ew
  split at e2
  case isFalse => cases e2
  case isTrue ht =>
  simp only [Option.bind_eq_some_iff] at e2
  obtain ⟨ws, e2, e3⟩ := e2
  refine ⟨F, ρ, fp, hF, rr, x, e1, fun u F1 H1 x1 p1 => ?_⟩
  refine ⟨hT F1 H1 u x x1.FH p1 ht, F1, ρ, fp, x1.FH, rr.ext x1, ws, e2, fun us F2 H2 x2 p2 => ?_⟩
  exact hv F2 H2 u us x ws w Q x2.FH (p1.ext x2) p2 e3 fun z F3 H3 x3 n => kk z F3 H3 ((x1.trans x2).trans x3) (n.ext (x1.trans x2) x3)
theorem dv_met {mo : M Val} {ms : M (List Val)} (hT : TyOk X.K T TB) (pa : PlainAttrs T) (slot : Slot T name id) (hty : typeOf (.builtin id) = pure (.type "method_descriptor")) (hm : MtR X id r) (hv : VMet r g) (ho : DV X k W o mo) (ha : DVs X k W (e :: es) ms)
    (hbase : attributeBase o name X.env (eval o X.env) = eval o X.env := by rfl)
    (hfew : ((backTo cpos (starEach (e :: es) X.env)).all (fun x => !x.1) && (backToKw cpos (keywordEach [] X.env)).all (fun x => x.1.isSome)
      && decide ((e :: es).length + ([] : List Keyword).length + (if ([] : List Keyword).isEmpty then 0 else 1) < 30)) = true := by rfl)
    (hline : (apos.endLine == cpos.line) = true := by rfl) (hs : starEach (e :: es) X.env = (false, eval e X.env) :: starEach es X.env := by rfl) (hplain : (backTo cpos (starEach es X.env)).any (·.1) = false := by rfl) :
    DV X k W (.Call (.Attribute o name apos) (e :: es) [] cpos) (mMet TB g mo ms) := peImp (pe_bm pa slot hty hm ho ha hbase hfew hline hs hplain) fun σ H Q ⟨B, F, ρ, τ, θ, s, hk, p⟩ => by
  refine ⟨B, F, ρ, τ, θ, s, hk, (Post.bind p).imp fun x ρ1 p1 u F1 H1 s1 => ?_⟩
  by_cases ht : TB x = true
  · simp only [ht, if_true] at p1
    refine ⟨hT F1 H1 u x s1.FH s1.top ht, B, F1, ρ1, _, _, s1, hk, (Post.bind p1).deep.imp fun ws ρ2 p2 us F2 H2 el s2 => ?_⟩
    cases q : g x ws with
    | none => rw [q] at p2; exact p2.elim
    | some w =>
      rw [q] at p2
      have s3 : SR B F2 H2 σ ρ2 (some u :: (us.map some ++ τ)) (some x :: (ws.map some ++ θ)) := s2.torot (by simpa using el)
      exact hv F2 H2 u us x ws w Q s2.FH s3.top (s2.tops el) q fun z F3 H3 x3 n => p2 z F3 H3 (((s3.push x3 n).under1).under (by simpa using el))
  · simp only [ht] at p1; exact p1.elim
end
def gJoin : Val → List Val → Option Val := fun x ws => match x, ws with
  | .str a, [.lst _ ys] => (strsOf ys).bind fun ss => if (ss.map (·.length)).sum + ss.length * a.length ≤ 16777216 then some (.str (Txt.join a ss)) else none
  | .str a, [.tup ys] => (strsOf ys).bind fun ss => if (ss.map (·.length)).sum + ss.length * a.length ≤ 16777216 then some (.str (Txt.join a ss)) else none
  | _, _ => none
theorem vjoin {K : PySem.W.Frag} : VMet (fun x xs H Q => ∃ a p, ∃ ys : List Str, x = .str a ∧ xs = [.ref p] ∧ (SqL K H p (ys.map V.str) ∨ SqT K H p (ys.map V.str)) ∧ (ys.map (·.length)).sum + ys.length * a.length ≤ 16777216 ∧ Q (.str (Txt.join a ys)) H) gJoin := fun F H x us wx ws w Q hF px pus e k => by
  cases wx <;> try (simp [gJoin] at e; done)
  rename_i a
  have := px.str; subst this
  match ws, e with
  | [.lst o ys], e =>
    simp only [gJoin, Option.bind_eq_some_iff] at e
    obtain ⟨ss, e1, e2⟩ := e
    split at e2
    case isFalse => cases e2
    case isTrue h =>
    cases e2
    obtain ⟨u, rfl, pu⟩ := pus.one
    obtain ⟨b, vs, rfl, hb, g, r⟩ := pu.lst hF
    have := strsOf_rep e1 r
    subst this
    exact ⟨a, b, ss, rfl, rfl, .inl (.of hb), h, k _ F H (.refl hF) (.of (.str _))⟩
  | [.tup ys], e =>
    simp only [gJoin, Option.bind_eq_some_iff] at e
    obtain ⟨ss, e1, e2⟩ := e
    split at e2
    case isFalse => cases e2
    case isTrue h =>
    cases e2
    obtain ⟨u, rfl, pu⟩ := pus.one
    obtain ⟨b, vs, rfl, hb, g, r⟩ := pu.tup
    have := strsOf_rep e1 r
    subst this
    exact ⟨a, b, ss, rfl, rfl, .inr (.of (hF _ _ hb)), h, k _ F H (.refl hF) (.of (.str _))⟩
theorem strs_rep {F H : Hp} : ∀ ss : List Str, Reps F H (ss.map V.str) (ss.map Val.str) []
  | [] => .nil
  | s :: ss => .cons (f1 := []) (f2 := []) (.str s) (strs_rep ss)
def gSplit : Val → List Val → Option Val := fun x ws => match x, ws with
  | .str a, [.str b] => if (b.length == 0) = false ∧ a.length + 2 ≤ sizeLine then some (.lst true ((Txt.split a b).map .str)) else none
  | _, _ => none
theorem vsplit : VMet (fun x xs H Q => ∃ a b, x = .str a ∧ xs = [.str b] ∧ (b.length == 0) = false ∧ a.length + 2 ≤ sizeLine ∧ rNewStrs (Txt.split a b) H Q) gSplit := fun F H x us wx ws w Q hF px pus e k => by
  cases wx <;> try (simp [gSplit] at e; done)
  rename_i a
  have := px.str; subst this
  match ws, e with
  | [.str b], e =>
    simp only [gSplit] at e
    split at e
    case isFalse => cases e
    case isTrue h =>
    cases e
    obtain ⟨u, rfl, pu⟩ := pus.one
    have := pu.str; subst this
    refine ⟨a, b, rfl, rfl, h.1, h.2, fun p np => ?_⟩
    obtain ⟨x1, n1⟩ := Nw.lst hF np (strs_rep (Txt.split a b))
    exact k _ _ _ x1 n1
end L2.DL

namespace L2.DL
open L2 PyProof.Rows PySem.Spec PySem

/-! ### x[i] op= e, x a list in a slot -/
theorem get_listR {X : Cx} : PGet X (rIxL X.K) := by
  intro pins s σ H o i ov iv Q I ro ri h
  obtain ⟨p, xs, j, z, rfl, rfl, hq, he, q⟩ := h
  cases ro
  obtain ⟨t, rfl⟩ := ri
  obtain ⟨its, r, pl, hz⟩ := I.list hq
  obtain ⟨n, h1, h2, h3, h4, h5⟩ := atI_get he
  obtain ⟨w, ew, rw'⟩ := r.get h2
  have hl := r.length
  have hn := line63
  have fin : EP X pins σ Q w s := ⟨z, H, I, rw', q⟩
  by_cases h0 : 0 ≤ j
  · have hj : j.toNat = n := by
      rw [seqIndex_of h0 h5] at h1
      exact Option.some.inj h1
    exact wpAny_getItem_list pl.isList h0 (by omega) (by rw [hj]; simpa using ew) fin
  · have hj : (j + (its.toArray.size : Int)).toNat = n := by
      rw [seqIndex_neg (by omega) h4] at h1
      rw [List.size_toArray, ← hl]
      exact Option.some.inj h1
    exact wpAny_getItem_list_neg pl.isList (by omega) (by rw [List.size_toArray] <;> omega) (by omega) (by rw [hj]; simpa using ew) fin

def sAugL (i : Nat) (fi : P Val) (op : Val → Val → Option Val) (fe : P Val) : G := fun ρ => match (ρ[i]?).join with
  | some (.lst true xs) => (match fi ρ with
    | some (.int j) => (match atI xs j, fe ρ with
      | some x, some y => (match op x y, ixN xs.length j with
        | some z, some n => .nx (ρ.set i (some (.lst true (xs.set n z))))
        | _, _ => .bad)
      | _, _ => .bad)
    | _ => .bad)
  | _ => .bad
theorem SR.view {B : Base} {F H : Hp} {σ : St} {ρ : Slots} {τ : List (Option V)} {θ : Slots} (s : SR B F H σ ρ τ θ) : ∃ fp, Le F H ∧ RepL F H σ ρ fp := let ⟨f1, _, h⟩ := s; ⟨f1, h.FH, h.s⟩

theorem ds_augL (i : Nat) {X : Cx} {k : Nat} {W : WX} {x : Str} {px tpos pos : Pos} {ie e : Expr} {op : Operator} {ti : TIp} {o : Val → Val → Option Val} {fi fe : P Val} (ho : PIp X op ti) (hv : VIp ti o) (hi : DP X ie fi) (he : DP X e fe)
    (hN : X.N[i]? = some x := by rfl) (hvi : Vis X.env.scope x := by first | exact Or.inl rfl | exact Or.inr (Or.inl rfl) | exact Or.inr (Or.inr rfl)) (hd : (x == ("__debug__" : Str)) = false := by decide)
    (hcd : (x == ("__classdict__" : Str)) = false := by decide)
    (ha : ∀ ov iv new, augStore ie ov iv new = (do holding [new, ov, iv] (setItem ov iv new); release [new, ov, iv] []; pure .next) := by intros; rfl) :
    DS X k W (.AugAssign (.Subscript (.Name x px) ie tpos) op e pos) (sAugL i fi o fe) := psImp (ps_augS (pe_var hN hvi hd hcd) hi get_listR he ho set_list ha) fun D σ H ⟨B, F, ρ, τ, θ, s, hk, p⟩ => by
  unfold sAugL at p
  cases q0 : (ρ[i]?).join with
  | none => rw [q0] at p; exact p.elim
  | some w0 =>
    rw [q0] at p
    cases w0 with
    | lst ow xs =>
      cases ow with
      | false => exact p.elim
      | true =>
        dsimp only at p
        cases q1 : fi ρ with
        | none => rw [q1] at p; exact p.elim
        | some iw =>
          rw [q1] at p
          cases iw with
          | int j =>
            dsimp only at p
            cases q2 : atI xs j with
            | none => rw [q2] at p; exact p.elim
            | some xw =>
              rw [q2] at p
              cases q3 : fe ρ with
              | none => rw [q3] at p; exact p.elim
              | some y =>
                rw [q3] at p
                dsimp only at p
                cases q4 : o xw y with
                | none => rw [q4] at p; exact p.elim
                | some z =>
                  rw [q4] at p
                  cases q5 : ixN xs.length j with
                  | none => rw [q5] at p; exact p.elim
                  | some n =>
                    rw [q5] at p
                    dsimp only at p
                    obtain ⟨v, ev, pv⟩ := s.get (join_some q0)
                    obtain ⟨fp, hF, rl⟩ := s.view
                    refine ⟨v, ev, F, ρ, fp, hF, rl, _, q1, fun iu F1 H1 x1 pk1 => ?_⟩
                    obtain rfl := pk1.int
                    have s1 := s.ext x1
                    obtain ⟨a, us, rfl, hA, pks⟩ := Pk.lst s1.FH (pv.ext x1)
                    obtain ⟨u, e1, pu⟩ := atI_rep pks q2
                    refine ⟨a, us, j, u, rfl, rfl, .inl (.inl hA), e1, ?_⟩
                    obtain ⟨fp1, hF1, rl1⟩ := s1.view
                    refine ⟨F1, ρ, fp1, hF1, rl1, y, q3, fun yv F2 H2 x2 pk2 => ?_⟩
                    have s2 := s1.ext x2
                    refine hv F2 H2 u yv xw y z _ s2.FH (pu.ext x2) pk2 q4 fun zv F3 H3 x3 nz => ?_
                    have s3 := s2.push x3 nz
                    obtain ⟨a', vs, ga, gus, ev', hA3, rv, rus, km⟩ := SR.openL (us := [zv]) (ws := [z]) rfl s3 (join_some q0)
                    rw [ev] at ev'; cases ev'
                    cases rus with
                    | @cons _ _ _ _ g1 g2 r1 r2 =>
                      cases r2
                      obtain ⟨g', r', c'⟩ := Reps.setE r1 n rv
                      refine ⟨a, vs, j, n, rfl, rfl, hA3, by rw [rv.length]; exact q5, ?_⟩
                      exact p σ F3 _ (km _ _ g' .non .non [] r' .non fun b => by have := c' b; simp only [List.count_append, List.count_nil] at *; omega).pop
          | _ => exact p.elim
    | _ => exact p.elim

def ipAdd := oInt fun i j => .int (i + j)
def ipSub := oInt fun i j => .int (i - j)
theorem vip_int {f : Int → Int → Int} : VIp (ipI f) (oInt fun i j => .int (f i j)) := fun F H x y wx wy w Q hF px py e k => by
  unfold oInt at e
  split at e
  · cases e
    refine ⟨_, _, px.int, py.int, k _ F H (.refl hF) (.of (.int _))⟩
  · cases e
theorem vip_add : VIp (ipI fun i j => i + j) ipAdd := vip_int
theorem vip_sub : VIp (ipI fun i j => i - j) ipSub := vip_int
end L2.DL

namespace L2.DL
open L2 PyProof.Rows PySem.Spec PySem

theorem rm1 {k : Nat} {A : Around} (r : Room k A) : A.units + 1 < cLine := by have := r.un; omega
theorem rm64 {k : Nat} {A : Around} (r : Room k A) : A.units + 64 < cLine := by have := r.un; omega
theorem rm65 {k : Nat} {A : Around} (r : Room k A) : A.units + 65 < cLine := by have := r.un; omega
/-- enough for every while -/
def fuel : Nat := 2 ^ 64

/-! ### how many arguments -/
theorem pl0 (ρ : Slots) (ws : List Val) (h : psNil ρ = some ws) : ws.length = 0 := by cases h; rfl
theorem plc {f : P Val} {fs : P (List Val)} {n : Nat} (h : ∀ ρ ws, fs ρ = some ws → ws.length = n) (ρ : Slots) (ws : List Val) (e : psCons f fs ρ = some ws) : ws.length = n + 1 := by
  obtain ⟨x, xs, _, e2, rfl⟩ := psCons_some e
  rw [List.length_cons, h _ _ e2]
theorem vl0 (ρ : Slots) (ws : List Val) (ρ' : Slots) (h : msNil ρ = .ok ws ρ') : ws.length = 0 := by cases h; rfl
theorem vlc {f : M Val} {fs : M (List Val)} {n : Nat} (h : ∀ ρ ws ρ', fs ρ = .ok ws ρ' → ws.length = n) (ρ : Slots) (ws : List Val) (ρ' : Slots) (e : msCons f fs ρ = .ok ws ρ') : ws.length = n + 1 := by
  obtain ⟨x, xs, ρ1, _, e2, rfl⟩ := msCons_ok e
  rw [List.length_cons, h _ _ _ e2]
theorem al0 (ρ : Slots) (as : List (Nat ⊕ Val)) (ρ' : Slots) (h : aNil ρ = .ok as ρ') : as.length = 0 := by cases h; rfl
theorem als {i : Nat} {fs : M (List (Nat ⊕ Val))} {n : Nat} (h : ∀ ρ as ρ', fs ρ = .ok as ρ' → as.length = n) (ρ : Slots) (as : List (Nat ⊕ Val)) (ρ' : Slots) (e : aSlot i fs ρ = .ok as ρ') : as.length = n + 1 := by
  unfold aSlot at e
  split at e
  · cases e
  · cases q : fs ρ with
    | ok a ρ1 => rw [q] at e; cases e; rw [List.length_cons, h _ _ _ q]
    | err c p ρ1 => rw [q] at e; cases e
    | bad => rw [q] at e; cases e
theorem alv {f : M Val} {fs : M (List (Nat ⊕ Val))} {n : Nat} (h : ∀ ρ as ρ', fs ρ = .ok as ρ' → as.length = n) (ρ : Slots) (as : List (Nat ⊕ Val)) (ρ' : Slots) (e : aVal f fs ρ = .ok as ρ') : as.length = n + 1 := by
  unfold aVal at e
  cases q0 : f ρ with
  | err c p ρ1 => rw [q0] at e; cases e
  | bad => rw [q0] at e; cases e
  | ok w ρ1 =>
    rw [q0] at e
    simp only [R.bind_ok] at e
    cases q : fs ρ1 with
    | ok a ρ1 => rw [q] at e; cases e; rw [List.length_cons, h _ _ _ q]
    | err c p ρ1 => rw [q] at e; cases e
    | bad => rw [q] at e; cases e

/-! ### a call of a def that changes nothing, the arguments looked at, what it raises let out -/
def mCallP (m : List Val → R0) (fs : P (List Val)) : M Val := fun ρ => match fs ρ with
  | none => .bad
  | some ws => if noObjs ws = true then (match m (frzs ws) with
    | .ok w => if (noOwns ws || noSh w) = true then .ok w ρ else .bad
    | .err c pl => if plSh ws pl = true then .err c pl ρ else .bad
    | .bad => .bad) else .bad
section
variable {X : Cx} {k j : Nat} {W : WX} {e a b : Expr} {es rest : List Expr} {f : Addr} {fd : FuncData} {ps : List Str} {m : List Val → R0} {x : Str} {p pos : Pos}
theorem dv_callP {fs : P (List Val)} (G : FnOk X.prog X.w X.K X.mg X.base (L2.CX X.prog X.w) j f fd ps (spP X.mg ps.length m)) (hr : Room j X.A) (tk : Takes X W) (hg : Gl X x) (hm : X.mg x = some (.ref f)) (hk : PySem.W.keepIn X.K (.ref f) = true) (hb : Binds X.K fd ps [])
    (hl : ∀ ρ ws, fs ρ = some ws → ws.length = ps.length) (ha : DPs X (e :: es) fs) (hdb : (x == ("__debug__" : Str)) = false := by decide) (he : starEach (e :: es) X.env = (false, eval e X.env) :: starEach es X.env := by rfl) (hpl : (backTo pos (starEach es X.env)).any (·.1) = false := by rfl) :
    DV X k W (.Call (.Name x p) (e :: es) [] pos) (mCallP m fs) := peImp (pe_callS (E := WE W) G hr hg hm hk hb (fun σ => passAt tk σ) ha hdb he hpl) fun σ H Q ⟨B, F, ρ, τ, θ, s, hk, p⟩ => by
  unfold mCallP at p
  cases qf : fs ρ with
  | none => rw [qf] at p; exact p.elim
  | some ws =>
    rw [qf] at p
    dsimp only at p
    obtain ⟨fp, hF, rl⟩ := s.view
    refine ⟨F, ρ, fp, hF, rl, ws, qf, fun us F1 H1 x1 ⟨g, ra⟩ => ?_⟩
    have s1 := s.ext x1
    split at p
    case isFalse => exact p.elim
    case isTrue no =>
    refine ⟨join F1 H1 g, frzs ws, by rw [frzs_length]; exact hl _ _ qf, join_H s1.FH, ra.frz (join_le s1.FH) no fun a ha => join_mem ha, ?_⟩
    cases q : m (frzs ws) with
    | ok w' =>
      rw [q] at p
      (try dsimp only at p); (try dsimp only)
      split at p
      case isFalse => exact p.elim
      case isTrue hc =>
      intro u F' H' x2 n
      obtain ⟨F'', x3, k1, _⟩ := lend s1.FH ra x2 (.inr trivial)
      exact p u F'' H' (s1.push x3 (k1 (by simpa using hc) n))
    | err c pl =>
      rw [q] at p
      (try dsimp only at p); (try dsimp only)
      split at p
      case isFalse => exact p.elim
      case isTrue hc =>
      intro C d F' H' eC x2 xr
      obtain ⟨F'', x3, _, k2⟩ := lend s1.FH ra x2 (.inr trivial)
      refine p C d F'' H' eC (s1.ext x3) ?_
      cases pl with
      | none => trivial
      | some z =>
        obtain ⟨dd, v, e1, e2, e3⟩ := xr
        exact ⟨dd, v, e1, e2, k2 (by simpa [plSh] using hc) e3⟩
    | bad => rw [q] at p; exact p.elim

/-! ### and, or of values, with effects -/
theorem dv_one {op : PySem.BoolOp} {fa : M Val} (h : DV X k W a fa) : DV X k W (.BoolOp op [a] pos) fa := pe_one h
def mAndV (fa fb : M Val) : M Val := fun ρ => (fa ρ).bind fun x ρ1 => match x with
  | .bl true => fb ρ1
  | .bl false => .ok (.bl false) ρ1
  | _ => .bad
def mOrV (fa fb : M Val) : M Val := fun ρ => (fa ρ).bind fun x ρ1 => match x with
  | .bl true => .ok (.bl true) ρ1
  | .bl false => fb ρ1
  | _ => .bad
theorem dv_andV {fa fb : M Val} (h : DV X k W a fa) (h2 : DV X k W (.BoolOp .And (b :: rest) pos) fb) : DV X k W (.BoolOp .And (a :: b :: rest) pos) (mAndV fa fb) := peImp (pe_and h h2) fun σ H Q ⟨B, F, ρ, τ, θ, s, hk, p⟩ => by
  refine ⟨B, F, ρ, τ, θ, s, hk, (Post.bind p).imp fun w ρ1 p1 u F1 H1 s1 => ?_⟩
  cases w with
  | bl c =>
    obtain rfl := s1.top.bl
    refine ⟨c, rfl, ?_⟩
    cases c with
    | true => exact iteT ⟨B, F1, ρ1, τ, θ, s1.pop, hk, p1⟩
    | false => exact iteF (p1 _ F1 H1 s1)
  | _ => exact p1.elim
theorem dv_orV {fa fb : M Val} (h : DV X k W a fa) (h2 : DV X k W (.BoolOp .Or (b :: rest) pos) fb) : DV X k W (.BoolOp .Or (a :: b :: rest) pos) (mOrV fa fb) := peImp (pe_or h h2) fun σ H Q ⟨B, F, ρ, τ, θ, s, hk, p⟩ => by
  refine ⟨B, F, ρ, τ, θ, s, hk, (Post.bind p).imp fun w ρ1 p1 u F1 H1 s1 => ?_⟩
  cases w with
  | bl c =>
    obtain rfl := s1.top.bl
    refine ⟨c, rfl, ?_⟩
    cases c with
    | false => exact iteF ⟨B, F1, ρ1, τ, θ, s1.pop, hk, p1⟩
    | true => exact iteT (p1 _ F1 H1 s1)
  | _ => exact p1.elim
end

/-! ### comprehensions, the slots told apart -/
section
variable {X : Cx} {k : Nat} {W : WX} {tg elt iter : Expr} {ifs : List Expr} {scope : Scope} {own : List (Str × Nat)} {vs : List Nat} {pos : Pos}
theorem df_compV {src : P WW} {is : List Nat} {h : T} {c : P Bool} {f : P Val} (hc : X.calm = true) (hN : X.N.Nodup) (hi : DIP X tg iter src) (ok : BlkOk X.N X.env.scope scope own)
    (hg : ∀ (s : Shared) (H : Hp) (C : Addr) (cl : List (Str × Addr)) (fp : List Addr), DG (X.blk s H scope (compEnvC scope cl C X.env) fp) tg is h)
    (ht : ∀ (s : Shared) (H : Hp) (C : Addr) (cl : List (Str × Addr)) (fp : List Addr), PTs (X.blk s H scope (compEnvC scope cl C X.env) fp) ifs (tPT c))
    (he : ∀ (s : Shared) (H : Hp) (C : Addr) (cl : List (Str × Addr)) (fp : List Addr), DF (X.blk s H scope (compEnvC scope cl C X.env) fp) elt f)
    (hv : own.map (·.2) = vs := by rfl) (his : ∀ i ∈ is, i ∈ vs := by decide) (hs : ∀ x, foldedSetIterable iter X.env x = pure x := by intro _; rfl) :
    DF X (.ListComp elt [⟨tg, iter, ifs, 0⟩] scope pos) (pComp vs is src h c f) := by subst hv; exact df_comp hc hN hi ok hg ht he his hs
theorem dv_compV {src : M WW} {is : List Nat} {h : T} {c : M Bool} {f : M Val} (hc : X.calm = true) (hN : X.N.Nodup) (hi : DI X k W tg iter src) (ok : BlkOk X.N X.env.scope scope own)
    (hg : ∀ (s : Shared) (H : Hp) (C : Addr) (cl : List (Str × Addr)) (fp : List Addr), DG (X.blk s H scope (compEnvC scope cl C X.env) fp) tg is h)
    (ht : ∀ (s : Shared) (H : Hp) (C : Addr) (cl : List (Str × Addr)) (fp : List Addr), PTs (X.blk s H scope (compEnvC scope cl C X.env) fp) ifs (tVT X.mg k W0 c))
    (he : ∀ (s : Shared) (H : Hp) (C : Addr) (cl : List (Str × Addr)) (fp : List Addr), DV (X.blk s H scope (compEnvC scope cl C X.env) fp) k W0 elt f)
    (hv : own.map (·.2) = vs := by rfl) (his : ∀ i ∈ is, i ∈ vs := by decide) (hki : ∀ i ∈ vs, k ≤ i := by decide) (hs : ∀ x, foldedSetIterable iter X.env x = pure x := by intro _; rfl) :
    DV X k W (.ListComp elt [⟨tg, iter, ifs, 0⟩] scope pos) (mComp vs is src h c f) := by subst hv; exact dv_comp hc hN hi ok hg ht he his hki hs
end

/-! ### slices of what is no script -/
def oSl (x : Val) (lo hi : Option Int) : Option Val := match x with
  | .lst _ ws => if noOwns ws = true then some (.lst true (cutW ws lo hi)) else none
  | .tup ws => if noOwns ws = true then some (.tup (cutW ws lo hi)) else none
  | .tpz ws => if noOwns ws = true then (if HT.sIx ws.length 0 lo = 0 ∧ HT.sIx ws.length ws.length hi = ws.length then some (.tpz ws) else some (.tup (cutW ws lo hi))) else none
  | .str s => if s.length ≤ sizeLine then some (.str (Txt.slice s lo hi)) else none
  | _ => none
theorem oSl_slice {K : PySem.W.Frag} {x w : Val} {lo hi : Option Int} (h : oSl x lo hi = some w) : oSlice K x lo hi = some w := by
  cases x <;> first | exact h | cases h
def pSl (fa : P Val) (fl fh : P (Option Int)) : P Val := fun ρ => (fa ρ).bind fun x => (fl ρ).bind fun l => (fh ρ).bind fun h => oSl x l h
theorem df_sl {X : Cx} {a : Expr} {lo hi : Option Expr} {fa : P Val} {fl fh : P (Option Int)} {pos p2 : Pos} (ha : DP X a fa) (hl : DPO X lo fl) (hh : DPO X hi fh) : DF X (.Subscript a (.Slice lo hi none p2) pos) (pSl fa fl fh) := peImp (df_slice ha hl hh) fun σ H Q ⟨F, ρ, fp, hF, r, w, ew, k⟩ => ⟨F, ρ, fp, hF, r, w, by
  simp only [pSl, pSlice, Option.bind_eq_some_iff] at ew ⊢
  obtain ⟨x, e1, l, e2, h, e3, e4⟩ := ew
  exact ⟨x, e1, l, e2, h, e3, oSl_slice e4⟩, k⟩

/-! ### the law's end -/
/-- what the script's list is, and nothing else -/
def only (H : Hp) : Hp := H
theorem law_start {mg : MG} {K : PySem.W.Frag} {m : List Val → R0} {H : Hp} {a : Addr} {ns : List Int} {Q : VK} {E : XK} (hS : SqL K H a (ns.map V.int)) (hm : m [.scr K ns] = .ok (.bl true)) (q : ∀ H', Q (.bl true) H') : spP mg 1 m [.ref a] H Q E := by
  refine ⟨H, [.scr K ns], rfl, .refl H, .cons (f1 := []) (f2 := []) (.scr hS) .nil, ?_⟩
  rw [hm]
  intro u F' H' _ ⟨g, r, _⟩
  cases r
  exact q H'
end L2.DL

namespace L2.DL
open L2 PyProof.Rows PySem.Spec PySem

/-! ### the denotations, applied: equations to reckon with -/
section
variable {ρ : Slots} {f fa fb fc : P Val} {m ma mb : M Val} {ps : P (List Val)} {ms : M (List Val)} {c d : P Bool} {mc md : M Bool} {g h : G} {i : Nat}
theorem sSeq_ap : sSeq g h ρ = (g ρ).seq h := rfl
theorem sNil_ap : sNil ρ = .nx ρ := rfl
theorem sIf_ap : sIf mc g h ρ = rS (mc ρ) fun b ρ1 => if b = true then g ρ1 else h ρ1 := by
  unfold sIf
  cases mc ρ with
  | ok b ρ1 => cases b <;> rfl
  | err _ _ _ => rfl
  | bad => rfl
theorem sSet_ap : sSet i m ρ = rS (m ρ) fun w ρ1 => .nx (ρ1.set i (some w)) := rfl
theorem sRet_ap : sRet m ρ = rS (m ρ) fun w ρ1 => .ret w ρ1 := rfl
theorem sRetN_ap : sRetN ρ = .ret .non ρ := rfl
theorem sDrop_ap : sDrop m ρ = rS (m ρ) fun _ ρ1 => .nx ρ1 := rfl
theorem sAsg_ap {is : List Nat} {t : T} : sAsg is t m ρ = rS (m ρ) fun w ρ1 => match t w with
  | some ws => if noOwns ws = true then .nx (setS ρ1 is ws) else .bad
  | none => .bad := rfl
theorem sFor_ap {is : List Nat} {t : T} {f : M WW} : sFor is t f g ρ = rS (f ρ) fun ww ρ1 => forL is t g ww.2 ρ1 := rfl
theorem sAug_ap {op : Val → Val → Option Val} : sAug i op m ρ = (match (ρ[i]?).join with
  | none => .bad
  | some _ => rS (m ρ) fun y ρ1 => match (ρ1[i]?).join with
    | none => .bad
    | some x => match op x y with
      | some w => .nx (ρ1.set i (some w))
      | none => .bad) := rfl
theorem sAugL_ap {op : Val → Val → Option Val} : sAugL i fa op fb ρ = (match (ρ[i]?).join with
  | some (.lst true xs) => (match fa ρ with
    | some (.int j) => (match atI xs j, fb ρ with
      | some x, some y => (match op x y, ixN xs.length j with
        | some z, some n => .nx (ρ.set i (some (.lst true (xs.set n z))))
        | _, _ => .bad)
      | _, _ => .bad)
    | _ => .bad)
  | _ => .bad) := rfl
theorem sPut_ap : sPut i ma mb ρ = rS (mb ρ) fun w ρ1 => match (ρ1[i]?).join with
  | none => .bad
  | some _ => rS (ma ρ1) fun iw ρ2 => match (ρ2[i]?).join with
    | none => .bad
    | some x => match putW x iw w with
      | some x' => .nx (ρ2.set i (some x'))
      | none => .bad := rfl
theorem mT_ap : mT c ρ = (match c ρ with
  | some b => .ok b ρ
  | none => .bad) := rfl
theorem mTest_ap : mTest m ρ = (m ρ).bind fun w ρ1 => match w with
  | .bl b => .ok b ρ1
  | _ => .bad := rfl
theorem mF_ap : mF f ρ = (match f ρ with
  | some w => .ok w ρ
  | none => .bad) := rfl
theorem mP_ap : mP f ρ = (match f ρ with
  | some w => if noOwn w = true then .ok w ρ else .bad
  | none => .bad) := rfl
theorem mMove_ap : mMove i ρ = (match (ρ[i]?).join with
  | some w => .ok w (ρ.set i none)
  | none => .bad) := rfl
theorem mFrz_ap : mFrz i ρ = (match (ρ[i]?).join with
  | some w => if noObj w = true then .ok (frz w) (ρ.set i (some (frz w))) else .bad
  | none => .bad) := rfl
theorem mOp2_ap {o : Val → Val → Option Val} : mOp2 o ma mb ρ = (ma ρ).bind fun x ρ1 => (mb ρ1).bind fun y ρ2 => match o x y with
  | some w => .ok w ρ2
  | none => .bad := rfl
theorem mOp1_ap {o : Val → Option Val} : mOp1 o ma ρ = (ma ρ).bind fun x ρ1 => match o x with
  | some w => .ok w ρ1
  | none => .bad := rfl
theorem mOpS_ap {o : List Val → Option Val} : mOpS o ms ρ = (ms ρ).bind fun ws ρ1 => match o ws with
  | some w => .ok w ρ1
  | none => .bad := rfl
theorem mIx_ap {o : Val → Val → Option Val} : mIx o ma mb ρ = (ma ρ).bind fun x ρ1 => (mb ρ1).bind fun y ρ2 => match o x y with
  | some w => if noOwn w = true then .ok w ρ2 else .bad
  | none => .bad := rfl
theorem mIxL_ap {o : Val → Val → Option Val} : mIxL o i mb ρ = (match (ρ[i]?).join with
  | none => .bad
  | some _ => (mb ρ).bind fun y ρ2 => match (ρ2[i]?).join with
    | some x => (match o x y with
      | some w => if noOwn w = true then .ok w ρ2 else .bad
      | none => .bad)
    | none => .bad) := rfl
theorem mIte_ap : mIte mc ma mb ρ = (mc ρ).bind fun x ρ1 => if x = true then ma ρ1 else mb ρ1 := rfl
theorem mNot_ap : mNot mc ρ = (mc ρ).bind fun b ρ1 => .ok (!b) ρ1 := rfl
theorem mAnd_ap : mAnd mc md ρ = (mc ρ).bind fun x ρ1 => if x = true then md ρ1 else .ok false ρ1 := rfl
theorem mOr_ap : mOr mc md ρ = (mc ρ).bind fun x ρ1 => if x = true then .ok true ρ1 else md ρ1 := rfl
theorem mAndV_ap : mAndV ma mb ρ = (ma ρ).bind fun x ρ1 => match x with
  | .bl true => mb ρ1
  | .bl false => .ok (.bl false) ρ1
  | _ => .bad := rfl
theorem mOrV_ap : mOrV ma mb ρ = (ma ρ).bind fun x ρ1 => match x with
  | .bl true => .ok (.bl true) ρ1
  | .bl false => mb ρ1
  | _ => .bad := rfl
theorem msNil_ap : msNil ρ = .ok [] ρ := rfl
theorem msCons_ap : msCons m ms ρ = (m ρ).bind fun w ρ1 => (ms ρ1).bind fun ws ρ2 => .ok (w :: ws) ρ2 := rfl
theorem psNil_ap : psNil ρ = some [] := rfl
theorem psCons_ap : psCons f ps ρ = (f ρ).bind fun w => (ps ρ).bind fun ws => some (w :: ws) := rfl
theorem pVar_ap : pVar i ρ = (ρ[i]?).join := rfl
theorem pC_ap {w : Val} : pC w ρ = some w := rfl
theorem pOp1_ap {o : Val → Option Val} : pOp1 o f ρ = (f ρ).bind o := rfl
theorem pOp2_ap {o : Val → Val → Option Val} : pOp2 o fa fb ρ = (fa ρ).bind fun x => (fb ρ).bind fun y => o x y := rfl
theorem pOpS_ap {o : List Val → Option Val} : pOpS o ps ρ = (ps ρ).bind o := rfl
theorem pTest_ap : pTest f ρ = (f ρ).bind fun w => match w with
  | .bl b => some b
  | _ => none := rfl
theorem pNot_ap : pNot c ρ = (c ρ).map (!·) := rfl
theorem pAnd_ap : pAnd c d ρ = (c ρ).bind fun x => if x = true then d ρ else some false := rfl
theorem pOr_ap : pOr c d ρ = (c ρ).bind fun x => if x = true then some true else d ρ := rfl
theorem pVal_ap : pVal c ρ = (c ρ).map .bl := rfl
theorem pAndV_ap : pAndV fa fb ρ = (pTest fa ρ).bind fun x => if x = true then fb ρ else some (.bl false) := rfl
theorem pOrV_ap : pOrV fa fb ρ = (pTest fa ρ).bind fun x => if x = true then some (.bl true) else fb ρ := rfl
theorem pIte_ap : pIte c fa fb ρ = (c ρ).bind fun x => if x = true then fa ρ else fb ρ := rfl
theorem pChain_ap {o o' : Val → Val → Option Val} : pChain o o' fa fb fc ρ = (fa ρ).bind fun x => (fb ρ).bind fun y => (o x y).bind fun z => match z with
  | .bl true => (fc ρ).bind fun w => o' y w
  | .bl false => some (.bl false)
  | _ => none := rfl
theorem pNo_ap : pNo f ρ = (f ρ).bind fun w => if noOwn w = true then some w else none := rfl
theorem poNone_ap : poNone ρ = some none := rfl
theorem poSome_ap : poSome f ρ = (f ρ).bind fun w => match w with
  | .int i => some (some i)
  | _ => none := rfl
theorem pSl_ap {fl fh : P (Option Int)} : pSl fa fl fh ρ = (fa ρ).bind fun x => (fl ρ).bind fun l => (fh ρ).bind fun h => oSl x l h := rfl
theorem pSeq_ap : pSeq f ρ = (f ρ).bind seqOf := rfl
theorem mSeq_ap : mSeq m ρ = (m ρ).bind fun w ρ1 => match seqOf w with
  | some ww => .ok ww ρ1
  | none => .bad := rfl
theorem pRng_ap : pRng ps ρ = (ps ρ).bind rngOf := rfl
theorem mRng_ap : mRng ms ρ = (ms ρ).bind fun w ρ1 => match rngOf w with
  | some ww => .ok ww ρ1
  | none => .bad := rfl
theorem pComp_ap {vs is : List Nat} {src : P WW} {t : T} : pComp vs is src t c f ρ = (src ρ).bind fun ww => (compP is t c f (wipeS ρ vs) ww.2).bind fun rs => if rs.length ≤ sizeLine then some (.lst true rs) else none := rfl
theorem mComp_ap {vs is : List Nat} {src : M WW} {t : T} : mComp vs is src t mc m ρ = (src ρ).bind fun ww ρ1 => (compM vs is t mc m ww.2 [] (wipeS ρ1 vs)).bind fun rs ρ2 => .ok (.lst true rs) (wipeS ρ2 vs) := rfl
theorem pYes_ap : pYes ρ = some true := rfl
theorem pMet_ap {TB : Val → Bool} {o : Val → List Val → Option Val} : pMet TB o f ps ρ = (f ρ).bind fun x => if TB x = true then (ps ρ).bind fun ws => o x ws else none := rfl
theorem mMet_ap {TB : Val → Bool} {o : Val → List Val → Option Val} : mMet TB o m ms ρ = (m ρ).bind fun x ρ1 => if TB x = true then (ms ρ1).bind fun ws ρ2 => match o x ws with
  | some w => .ok w ρ2
  | none => .bad else .bad := rfl
theorem mMeth_ap {o : Mu} : mMeth o i ms ρ = (match (ρ[i]?).join with
  | some (.lst _ _) => (ms ρ).bind fun ws ρ1 => (match (ρ1[i]?).join with
    | some (.lst true xs) => (match o xs ws with
      | some (res, xs') => .ok res (ρ1.set i (some (.lst true xs')))
      | none => .bad)
    | _ => .bad)
  | _ => .bad) := rfl
theorem pIsi_ap {T : String} : pIsi T f ρ = (f ρ).bind fun w => (tyName w).bind fun n => (kitB n T).map fun b => .bl b := rfl
theorem pGet2_ap : pGet2 fa fb fc ρ = (fa ρ).bind fun x => (fb ρ).bind fun y => (fc ρ).bind fun z => (dGet x y).map fun o => o.getD z := rfl
theorem aNil_ap : aNil ρ = .ok [] ρ := rfl
theorem aSlot_ap {fs : M (List (Nat ⊕ Val))} : aSlot i fs ρ = (match (ρ[i]?).join with
  | none => .bad
  | some _ => (fs ρ).bind fun as ρ1 => .ok (.inl i :: as) ρ1) := rfl
theorem aVal_ap {fs : M (List (Nat ⊕ Val))} : aVal m fs ρ = (m ρ).bind fun w ρ1 => (fs ρ1).bind fun as ρ2 => .ok (.inr w :: as) ρ2 := rfl
theorem mCallIO_ap {k : List Val → R1} {fs : M (List (Nat ⊕ Val))} : mCallIO k fs ρ = (fs ρ).bind (callIO k) := rfl
theorem mCall_ap {k : List Val → R0} : mCall k ms ρ = (ms ρ).bind fun ws ρ1 => if noObjs ws = true then (match k (frzs ws) with
  | .ok w => if (noOwns ws || noSh w) = true then .ok w ρ1 else .bad
  | .err c pl => if plSh ws pl = true then .err c pl ρ1 else .bad
  | .bad => .bad) else .bad := rfl
theorem mCallP_ap {k : List Val → R0} : mCallP k ps ρ = (match ps ρ with
  | none => .bad
  | some ws => if noObjs ws = true then (match k (frzs ws) with
    | .ok w => if (noOwns ws || noSh w) = true then .ok w ρ else .bad
    | .err c pl => if plSh ws pl = true then .err c pl ρ else .bad
    | .bad => .bad) else .bad) := rfl
end

/-! ### operators on what they meet -/
theorem oAdd_int (i j : Int) : oAdd (.int i) (.int j) = some (.int (i + j)) := rfl
theorem oSub_int (i j : Int) : oSub (.int i) (.int j) = some (.int (i - j)) := rfl
theorem ipAdd_int (i j : Int) : ipAdd (.int i) (.int j) = some (.int (i + j)) := rfl
theorem ipSub_int (i j : Int) : ipSub (.int i) (.int j) = some (.int (i - j)) := rfl
theorem oMul_int {i j : Int} (h : cMul i j = true) : oMul (.int i) (.int j) = some (.int (i * j)) := by simp [oMul, oIntC, h]
theorem oMod_int {i j : Int} (h : 0 < j) : oMod (.int i) (.int j) = some (.int (i % j)) := by simp [oMod, oIntC, h]
theorem oDiv_int {i j : Int} (h : 0 < j) (h2 : j < 18446744073709551616) : oDiv (.int i) (.int j) = some (.int (i / j)) := by
  have := ltA_of (i := j) (n := 18446744073709551616) (by omega)
  simp only [oDiv, oIntC, cDiv, decide_eq_true h, this, Bool.and_self, if_true]
theorem oLt_int (i j : Int) : oLt (.int i) (.int j) = some (.bl (decide (i < j))) := rfl
theorem oLe_int (i j : Int) : oLe (.int i) (.int j) = some (.bl (decide (i ≤ j))) := rfl
theorem oGt_int (i j : Int) : oGt (.int i) (.int j) = some (.bl (decide (j < i))) := rfl
theorem oGe_int (i j : Int) : oGe (.int i) (.int j) = some (.bl (decide (j ≤ i))) := rfl
theorem oLt_str (a b : Str) : oLt (.str a) (.str b) = some (.bl (decide (a.cps.toList < b.cps.toList))) := rfl
theorem oLe_str (a b : Str) : oLe (.str a) (.str b) = some (.bl (!decide (b.cps.toList < a.cps.toList))) := rfl
theorem oGt_str (a b : Str) : oGt (.str a) (.str b) = some (.bl (decide (b.cps.toList < a.cps.toList))) := rfl
theorem oGe_str (a b : Str) : oGe (.str a) (.str b) = some (.bl (!decide (a.cps.toList < b.cps.toList))) := rfl
theorem oEq_int (i j : Int) : oEq (.int i) (.int j) = some (.bl (i == j)) := rfl
theorem oNe_int (i j : Int) : oNe (.int i) (.int j) = some (.bl (!(i == j))) := rfl
theorem oEq_str {i j : Str} (h : PyData.strOk i = true) (h2 : PyData.strOk j = true) : oEq (.str i) (.str j) = some (.bl (i == j)) := by simp [oEq, eqB, toPy, SeqAt.shaped, PyData.canLay0, PyData.depth, h, h2, PyData.eqv]
theorem oNe_str {i j : Str} (h : PyData.strOk i = true) (h2 : PyData.strOk j = true) : oNe (.str i) (.str j) = some (.bl (!(i == j))) := by simp [oNe, eqB, toPy, SeqAt.shaped, PyData.canLay0, PyData.depth, h, h2, PyData.eqv]
theorem oEq_bl (i j : Bool) : oEq (.bl i) (.bl j) = some (.bl (i == j)) := by cases i <;> cases j <;> rfl
theorem oNeg_int (i : Int) : oNeg (.int i) = some (.int (-i)) := rfl
theorem oSubs_lst (o : Bool) (ws : List Val) (i : Int) : oSubs (.lst o ws) (.int i) = atI ws i := rfl
theorem oSubs_tup (ws : List Val) (i : Int) : oSubs (.tup ws) (.int i) = atI ws i := rfl
theorem oIx_lst (o : Bool) (ws : List Val) (i : Int) : oIx (.lst o ws) (.int i) = atI ws i := rfl
theorem oIx_tup (ws : List Val) (i : Int) : oIx (.tup ws) (.int i) = atI ws i := rfl
theorem oLen_lst (o : Bool) (ws : List Val) : oLen [.lst o ws] = some (.int ws.length) := rfl
theorem oLen_tup (ws : List Val) : oLen [.tup ws] = some (.int ws.length) := rfl
theorem oLen_str {s : Str} (h : s.length ≤ sizeLine) : oLen [.str s] = some (.int s.length) := by simp [oLen, h]
theorem oIn_str (a b : Str) : oIn (.str a) (.str b) = some (.bl (strIn a b)) := rfl
theorem oNotIn_str (a b : Str) : oNotIn (.str a) (.str b) = some (.bl (!strIn a b)) := rfl
theorem oIsN_ap (a : Val) : oIsN a .non = some (.bl (match a with
    | .non => true
    | _ => false)) := rfl
theorem oNotN_ap (a : Val) : oNotN a .non = some (.bl (match a with
    | .non => false
    | _ => true)) := rfl
theorem seqOf_str (s : Str) : seqOf (.str s) = some (.str s, signs s) := rfl
theorem seqOf_tup (ws : List Val) : seqOf (.tup ws) = some (.tup ws, ws) := rfl
theorem seqOf_lst (o : Bool) (ws : List Val) : seqOf (.lst o ws) = some (.lst o ws, ws) := rfl
theorem rngOf_one {j : Int} (h : -(2 ^ 62) < j) (h2 : j < 2 ^ 62) : rngOf [.int j] = some (.non, rng 0 j) := by simp only [rngOf, lim62, ltA_of (i := j) (n := 2 ^ 62) (by omega), if_true]
theorem rngOf_two {i j : Int} (h : -(2 ^ 62) < j) (h2 : j < 2 ^ 62) (h3 : -(2 ^ 62) < i) (h4 : i < 2 ^ 62) : rngOf [.int i, .int j] = some (.non, rng i j) := by simp only [rngOf, lim62, ltA_of (i := j) (n := 2 ^ 62) (by omega), ltA_of (i := i) (n := 2 ^ 62) (by omega), Bool.and_self, decide_true, if_true]
/-! ### plain facts of what values own -/
theorem noOwns_of {ws : List Val} (h : ∀ w ∈ ws, noOwn w = true) : noOwns ws = true := by
  induction ws with
  | nil => rfl
  | cons w ws ih => simp only [noOwns, h w List.mem_cons_self, ih fun x hx => h x (List.mem_cons_of_mem _ hx), Bool.and_self]
theorem noShs_of {ws : List Val} (h : ∀ w ∈ ws, noSh w = true) : noShs ws = true := by
  induction ws with
  | nil => rfl
  | cons w ws ih => simp only [noShs, h w List.mem_cons_self, ih fun x hx => h x (List.mem_cons_of_mem _ hx), Bool.and_self]
theorem noObjs_of {ws : List Val} (h : ∀ w ∈ ws, noObj w = true) : noObjs ws = true := by
  induction ws with
  | nil => rfl
  | cons w ws ih => simp only [noObjs, h w List.mem_cons_self, ih fun x hx => h x (List.mem_cons_of_mem _ hx), Bool.and_self]
end L2.DL

namespace L2.DL
open L2 PyProof.Rows PySem.Spec PySem

/-! ### what a run of statements comes to: nx, and what is told -/
def To (x : RS) (nx : Slots → Prop) (rt : Val → Slots → Prop) : Prop := match x with
  | .nx ρ => nx ρ
  | .ret w ρ => rt w ρ
  | _ => False
theorem To.imp {x : RS} {nx nx' : Slots → Prop} {rt rt' : Val → Slots → Prop} (h : To x nx rt) (h1 : ∀ ρ, nx ρ → nx' ρ) (h2 : ∀ w ρ, rt w ρ → rt' w ρ) : To x nx' rt' := by
  cases x <;> first | exact h1 _ h | exact h2 _ _ h | exact h
theorem To.seq {g h : G} {ρ : Slots} {m nx : Slots → Prop} {rt : Val → Slots → Prop} (a : To (g ρ) m rt) (b : ∀ ρ', m ρ' → To (h ρ') nx rt) : To (sSeq g h ρ) nx rt := by
  rw [sSeq_ap]
  cases q : g ρ with
  | nx ρ1 => rw [q] at a; exact b _ a
  | ret w ρ1 => rw [q] at a; exact a
  | brk ρ1 => rw [q] at a; exact a.elim
  | ct ρ1 => rw [q] at a; exact a.elim
  | err _ _ _ => rw [q] at a; exact a.elim
  | bad => rw [q] at a; exact a.elim
theorem To.nxt {g : G} {ρ ρ' : Slots} {nx : Slots → Prop} {rt : Val → Slots → Prop} (e : g ρ = .nx ρ') (h : nx ρ') : To (g ρ) nx rt := by rw [e]; exact h
theorem To.ret {g : G} {ρ ρ' : Slots} {w : Val} {nx : Slots → Prop} {rt : Val → Slots → Prop} (e : g ρ = .ret w ρ') (h : rt w ρ') : To (g ρ) nx rt := by rw [e]; exact h
theorem To.ite {c : M Bool} {g h : G} {ρ ρ1 : Slots} {b : Bool} {nx : Slots → Prop} {rt : Val → Slots → Prop} (e : c ρ = .ok b ρ1) (h1 : b = true → To (g ρ1) nx rt) (h2 : b = false → To (h ρ1) nx rt) : To (sIf c g h ρ) nx rt := by
  rw [sIf_ap, e, rS_ok]
  cases b with
  | true => exact h1 rfl
  | false => exact h2 rfl
theorem To.nil {ρ : Slots} {nx : Slots → Prop} {rt : Val → Slots → Prop} (h : nx ρ) : To (sNil ρ) nx rt := h
theorem To.fnP {n : Nat} {g : G} {ws : List Val} {w : Val} (h : To (g (startS n ws)) (fun _ => w = .non) fun v _ => v = w) : fnP n g ws = .ok w := by
  unfold DL.fnP
  cases q : g (startS n ws) with
  | nx ρ1 => rw [q] at h; rw [show w = .non from h]
  | ret v ρ1 => rw [q] at h; rw [show v = w from h]
  | brk ρ1 => rw [q] at h; exact h.elim
  | ct ρ1 => rw [q] at h; exact h.elim
  | err _ _ _ => rw [q] at h; exact h.elim
  | bad => rw [q] at h; exact h.elim
theorem To.fnIO {n np : Nat} {g : G} {ws : List Val} {R : Val → Slots → Prop} (h : To (g (startS n ws)) (fun ρ => R .non (ρ.take np)) fun v ρ => R v (ρ.take np)) : ∃ w outs, R w outs ∧ fnIO n np g ws = .ok w outs := by
  unfold DL.fnIO
  cases q : g (startS n ws) with
  | nx ρ1 => rw [q] at h; exact ⟨_, _, h, rfl⟩
  | ret v ρ1 => rw [q] at h; exact ⟨_, _, h, rfl⟩
  | brk ρ1 => rw [q] at h; exact h.elim
  | ct ρ1 => rw [q] at h; exact h.elim
  | err _ _ _ => rw [q] at h; exact h.elim
  | bad => rw [q] at h; exact h.elim
/-- a walk, by an invariant of what is done and what is left -/
theorem To.forL {is : List Nat} {t : T} {g : G} {nx : Slots → Prop} {rt : Val → Slots → Prop} (I : List Val → List Val → Slots → Prop) (hend : ∀ done ρ, I done [] ρ → nx ρ) (step : ∀ done w rest ρ, I done (w :: rest) ρ → ∃ rs, t w = some rs ∧ noOwns rs = true ∧
      match g (setS ρ is rs) with
      | .nx ρ' => I (done ++ [w]) rest ρ'
      | .ct ρ' => I (done ++ [w]) rest ρ'
      | .brk ρ' => nx ρ'
      | .ret v ρ' => rt v ρ'
      | _ => False) : ∀ (ws done : List Val) (ρ : Slots), I done ws ρ → To (DL.forL is t g ws ρ) nx rt
  | [], done, ρ, h => hend _ _ h
  | w :: ws, done, ρ, h => by
    obtain ⟨rs, e1, e2, e3⟩ := step done w ws ρ h
    rw [DL.forL]
    simp only [e1, e2, if_true]
    cases q : g (setS ρ is rs) with
    | nx ρ1 => rw [q] at e3; exact To.forL I hend step ws _ _ e3
    | ct ρ1 => rw [q] at e3; exact To.forL I hend step ws _ _ e3
    | brk ρ1 => rw [q] at e3; exact e3
    | ret v ρ1 => rw [q] at e3; exact e3
    | err _ _ _ => rw [q] at e3; exact e3.elim
    | bad => rw [q] at e3; exact e3.elim
/-- the same where nothing but the slots counts -/
theorem To.each {is : List Nat} {t : T} {g : G} {rt : Val → Slots → Prop} (I : Slots → Prop) {ws : List Val} {ρ : Slots} (h : I ρ) (step : ∀ w ∈ ws, ∀ ρ, I ρ → ∃ rs, t w = some rs ∧ noOwns rs = true ∧ To (g (setS ρ is rs)) I rt) : To (DL.forL is t g ws ρ) I rt := by
  induction ws generalizing ρ with
  | nil => exact h
  | cons w ws ih =>
    obtain ⟨rs, e1, e2, e3⟩ := step w List.mem_cons_self ρ h
    rw [DL.forL]
    simp only [e1, e2, if_true]
    cases q : g (setS ρ is rs) with
    | nx ρ1 => rw [q] at e3; exact ih e3 fun w hw => step w (List.mem_cons_of_mem _ hw)
    | ct ρ1 => rw [q] at e3; exact e3.elim
    | brk ρ1 => rw [q] at e3; exact e3.elim
    | ret v ρ1 => rw [q] at e3; exact e3
    | err _ _ _ => rw [q] at e3; exact e3.elim
    | bad => rw [q] at e3; exact e3.elim
end L2.DL

namespace L2.DL
open L2 PyProof.Rows PySem.Spec PySem

/-! ### rooms: tuples whose object is known -/
def rTupZ (K : PySem.W.Frag) : List V → Hp → VK → Prop := fun xs H Q => ∃ p ys, xs = [.ref p] ∧ ((SqL K H p ys ∧ ∀ l ob, H l = none → ob.cls = .type "tuple" ∧ ob.dict = none → Q (.ref l) (upd H l (.frz ob (.tup ys)))) ∨ (SqT K H p ys ∧ Q (.ref p) H))
theorem call_tupleZ {X : Cx} : CallR X (.type "tuple") (rTupZ X.K) := by
  intro pins s σ H xs us Q I r h
  obtain ⟨p, ys, rfl, h⟩ := h
  obtain ⟨u, rfl, rx⟩ := vals1 r
  cases rx
  rcases h with ⟨hq, q⟩ | ⟨hq, q⟩
  · obtain ⟨its, r', pl, hz⟩ := I.list hq
    have hlen := r'.length
    refine call_tuple_list pl.isList (fun h' kp => ?_) (by simp only [List.size_toArray] <;> omega)
    have I1 : Inv X pins σ H { s with heap := h' } := I.kept (t' := s.toks) kp
    have I2 : Inv X pins σ (upd H h'.objs.size (.frz { cls := .type "tuple", data := .seq its.toArray } (.tup ys))) { s with heap := h'.push { cls := .type "tuple", data := .seq its.toArray } } :=
      I1.laid (t' := s.toks) (fun b o e => Heap.get?_push_of_some _ e) (Nat.le_refl _) ⟨Heap.get?_push_size _ rfl, hz, its, r', IsTup.new _ _⟩
    exact ⟨.ref h'.objs.size, _, I2, rfl, q _ _ (I1.hok.fresh (Nat.le_refl _)) ⟨rfl, rfl⟩⟩
  · obtain ⟨its, r', pl, hz⟩ := I.tuple hq
    exact call_tuple_same pl ⟨.ref p, H, I, rfl, q⟩
def oTupleZ (ws : List Val) : Option Val := match ws with
  | [.lst _ ws] => if noOwns ws = true then some (.tpz ws) else none
  | [.tpz ws] => if noOwns ws = true then some (.tpz ws) else none
  | _ => none
theorem vtupleZ {K : PySem.W.Frag} : VOpS (rTupZ K) oTupleZ := fun F H xs ws w Q hF p e k => by
  match ws, e with
  | [.lst o vs], e =>
    simp only [oTupleZ] at e
    split at e
    case isFalse => cases e
    case isTrue n =>
    cases e
    obtain ⟨u, rfl, pu⟩ := p.one
    obtain ⟨a, us, rfl, ha, pus⟩ := pu.lst hF
    refine ⟨a, us, rfl, .inl ⟨.of ha, fun l ob nl h0 => ?_⟩⟩
    have x := (Ext.laid (o := .frz ob (.tup us)) hF nl).2
    exact k _ _ _ x (.of (.tpz upd_same h0 ((pus.no n).ext x)))
  | [.tpz vs], e =>
    simp only [oTupleZ] at e
    split at e
    case isFalse => cases e
    case isTrue n =>
    cases e
    obtain ⟨u, rfl, pu⟩ := p.one
    obtain ⟨a, ob, us, rfl, ha, h0, pus⟩ := pu.tpz
    exact ⟨a, us, rfl, .inr ⟨.inl (.inr ⟨_, hF _ _ ha⟩), k _ F H (.refl hF) (.of (.tpz ha h0 (pus.no n)))⟩⟩

/-! ### x.index(e) -/
def fstAt : List Str → Str → Option Nat
  | [], _ => none
  | s :: ss, z => if (s == z) = true then some 0 else (fstAt ss z).map (· + 1)
theorem fstAt_some : ∀ {ss : List Str} {z : Str} {j : Nat}, fstAt ss z = some j → ss[j]? = some z ∧ ∀ m, m < j → ss[m]? ≠ some z
  | [], z, j, h => by cases h
  | s :: ss, z, j, h => by
    unfold fstAt at h
    split at h
    case isTrue e =>
      cases h
      exact ⟨by rw [List.getElem?_cons_zero, eq_of_beq e], fun m hm => absurd hm (Nat.not_lt_zero _)⟩
    case isFalse e =>
      obtain ⟨i, e1, rfl⟩ := Option.map_eq_some_iff.mp h
      obtain ⟨h1, h2⟩ := fstAt_some e1
      refine ⟨by rw [List.getElem?_cons_succ]; exact h1, fun m hm => ?_⟩
      cases m with
      | zero => rw [List.getElem?_cons_zero]; intro q; cases q; exact e (beq_self_eq_true _)
      | succ m => rw [List.getElem?_cons_succ]; exact h2 m (by omega)
def gIndexZ : Val → Val → Option Val := fun x w => match x, w with
  | .tpz ys, .str z => (strsOf ys).bind fun ss => (fstAt ss z).map fun j => .int (j : Nat)
  | _, _ => none
section
variable {X : Cx} {o e : Expr} {apos cpos : Pos} {fo fe : P Val}
def pIdx (fo fe : P Val) : P Val := fun ρ => (fo ρ).bind fun x => (fe ρ).bind fun w => gIndexZ x w
theorem df_index (ho : DP X o fo) (he : DP X e fe)
    (hbase : attributeBase o "index" X.env (eval o X.env) = eval o X.env := by rfl)
    (hfew : ((backTo cpos (starEach [e] X.env)).all (fun x => !x.1) && (backToKw cpos (keywordEach [] X.env)).all (fun x => x.1.isSome)
      && decide (([e] : List Expr).length + ([] : List Keyword).length + (if ([] : List Keyword).isEmpty then 0 else 1) < 30)) = true := by rfl)
    (hline : (apos.endLine == cpos.line) = true := by rfl) (hs : starEach [e] X.env = (false, eval e X.env) :: starEach [] X.env := by rfl) (hplain : (backTo cpos (starEach [] X.env)).any (·.1) = false := by rfl) :
    DF X (.Call (.Attribute o "index" apos) [e] [] cpos) (pIdx fo fe) := ⟨fun pins s σ H Q I ⟨F, ρ, fp, hF, rr, w, ew, kk⟩ => by
  simp only [pIdx, Option.bind_eq_some_iff] at ew
  obtain ⟨x, e1, z, e2, e3⟩ := ew
  refine wpAny_Call_method_late hbase hfew hline rfl (thn (ho.run pins s σ H (fun u H1 => ∃ F1, Ext F H F1 H1 ∧ Pk F1 H1 u x) I ⟨F, ρ, fp, hF, rr, x, e1, fun u F1 H1 x1 p1 => ⟨F1, x1, p1⟩⟩) fun v s1 ⟨u, H1, I1, r1, F1, x1, p1⟩ => ?_)
  cases x with
  | tpz ys =>
    cases z with
    | str z =>
      simp only [gIndexZ, Option.bind_eq_some_iff, Option.map_eq_some_iff] at e3
      obtain ⟨ss, e4, j, e5, rfl⟩ := e3
      obtain ⟨a, ob, us, rfl, ha, h0, g, ru⟩ := p1.tpz
      have eus := strsOf_rep e4 ru
      subst eus
      have eo := (I1.hok a _ (x1.FH _ _ ha)).1
      cases r1
      refine ⟨"tuple", "tuple.index", PySem.F.plainAttrs_tuple, PySem.F.slot_tuple_index, PySem.F.type_tuple_index, ⟨ob, eo, h0.1⟩, fun b e => ?_, ?_⟩
      · cases e; exact ⟨ob, eo, h0.2⟩
      have hA := (ds_cons he ds_nil hs).run cpos pins s1 σ H1 (fun vs H2 => ∃ F2, Ext F1 H1 F2 H2 ∧ PkS F2 H2 vs [.str z]) I1 ⟨F1, ρ, fp, x1.FH, rr.ext x1, [.str z], by simp only [psCons, psNil, e2, Option.bind_some], fun us F2 H2 x2 p2 => ⟨F2, x2, p2⟩⟩
      rw [hs] at hA ⊢
      refine Calls.callWith_builtin (by show (false || (backTo cpos (starEach [] X.env)).any (·.1)) = false; rw [hplain] <;> rfl) (Calls.evalArgs_plain ?_)
      refine thn hA fun us s2 ⟨vs, H2, I2, r2, F2, x2, p2⟩ => ?_
      obtain ⟨y, rfl, py⟩ := p2.one
      obtain rfl := py.str
      obtain ⟨f1, f2⟩ := fstAt_some e5
      exact mt_tup_index pins s2 σ H2 (.ref a) [.str z] _ us Q I2 rfl r2 ⟨a, ss, z, j, rfl, rfl, .inl (.inr ⟨_, x2.FH _ _ (x2.leF _ _ ha)⟩), f1, f2, kk _ F2 H2 (x1.trans x2) (.of (.int _))⟩
    | _ => cases e3
  | _ => cases z <;> cases e3⟩
end
end L2.DL

namespace L2.DL
open L2 PyProof.Rows PySem.Spec PySem

/-! ### raise of an own class without __init__ -/
/-- what is told of such a class -/
structure ExcK (K : PySem.W.Frag) (C : Addr) : Prop where
  ex : ∃ (B newId initId : String) (bm : List Value), ExcBaseFacts B newId initId bm ∧ PySem.W.excIn K C bm newId = true
  kp : PySem.W.keepIn K (.ref C) = true
  sb : PySem.W.subIn K (.ref C) (.type "BaseException") = some true
  ty : PySem.W.typeIn K (.ref C) = some (.type "type")
section
variable {X : Cx} {k : Nat} {W : WX}
theorem ds_raise {x m : Str} {C : Addr} {j : Nat} {p p2 pos pos' : Pos} (hc : X.calm = true) (tk : Takes X W) (gC : X.mg x = some (.ref C)) (q : ExcK X.K C) (hg : Gl X x) (hdb : (x == ("__debug__" : Str)) = false := by decide) :
    DS X k W (.Raise (some (.Call (.Name x p) [.Constant (.str m) j p2] [] pos)) none pos') (fun ρ => .err x none ρ) := by
  obtain ⟨B, newId, initId, bm, F, e⟩ := q.ex
  exact psImp (ps_raise hc tk (pmk_own F e gC q.kp (raises_own q.sb q.ty) hg hdb)) fun D σ H ⟨B, F, ρ, τ, θ, s, hk, p⟩ => p C none σ F H gC s trivial

/-! ### try .. except .. else -/
def nES (x : RS) : RS := match x with
  | .err _ _ _ => .bad
  | x => x
def hdRun : List ((Str → Option Bool) × G) → Str → Option (Str × Val) → G
  | [], c, pl, ρ => .err c pl ρ
  | (t, h) :: r, c, pl, ρ => match t c with
    | some true => nES (h ρ)
    | some false => hdRun r c pl ρ
    | none => .bad
def sTry (g : G) (l : List ((Str → Option Bool) × G)) (e : G) : G := fun ρ => match g ρ with
  | .err c pl ρ1 => hdRun l c pl ρ1
  | .nx ρ1 => e ρ1
  | x => x
/-- a table of classes: caught or not -/
def excT (l : List (Str × Bool)) (c : Str) : Option Bool := l.lookup c
/-- the clauses keep the denotations -/
def DHs (X : Cx) (k : Nat) (hds : List ExceptHandler) (l : List ((Str → Option Bool) × G)) : Prop := ∃ L, HdsOk X hds L ∧ ∀ (W : WX) (D : Ends) (c : Str) (pl : Option (Str × Val)) (B : Base) (τ : List (Option V)) (θ ρ : Slots), B.S0.length = k → PostS X.mg W B τ θ (hdRun l c pl ρ) D →
  ∀ C d σ F H, X.mg c = some (.ref C) → SR B F H σ ρ τ θ → XR F H pl d → wMany X.K W D L (.ref C) d σ H
theorem dhs_nil : DHs X k [] [] := ⟨[], .nil, fun W D c pl B τ θ ρ hk p C d σ F H e s x => p C d σ F H e s x⟩
theorem dhs_cons {x : Str} {cv : Value} {b₀ : Stmt} {suite : List Stmt} {np pos' : Pos} {hds : List ExceptHandler} {l : List ((Str → Option Bool) × G)} {t : Str → Option Bool} {h : G} (hc : Names X x cv)
    (ht : ∀ c C b, X.mg c = some (.ref C) → t c = some b → PySem.W.exmOne X.K (.ref C) cv = some b)
    (hsu : ∀ (a : Addr) (oe : Obj) (pn : List (Addr × Obj)), DSs (X.suite a ((a, oe) :: pn)) k W0 (b₀ :: suite) h) (r : DHs X k hds l) :
    DHs X k (.ExceptHandler (some (.Name x np)) none (b₀ :: suite) pos' :: hds) ((t, h) :: l) := by
  obtain ⟨L, hL, run⟩ := r
  refine ⟨(cv, fun _ _ _ => tS X.mg k W0 h) :: L, .cons hc (fun a oe cls d pn _ _ => hsu a oe pn) hL, fun W D c pl B τ θ ρ hk p C d σ F H e s x => ?_⟩
  unfold hdRun at p
  cases q : t c with
  | none => rw [q] at p; exact p.elim
  | some b =>
    rw [q] at p
    refine ⟨b, ht c C b e q, fun hb a na => ?_, fun hb => ?_⟩
    · subst hb
      refine ⟨B, F, ρ, τ, θ, s, hk, ?_⟩
      dsimp only at p
      cases q2 : h ρ with
      | err c' pl' ρ' => rw [q2] at p; exact p.elim
      | nx ρ' => rw [q2] at p; exact p
      | brk ρ' => rw [q2] at p; exact p
      | ct ρ' => rw [q2] at p; exact p
      | ret w ρ' => rw [q2] at p; exact p
      | bad => rw [q2] at p; exact p.elim
    · subst hb
      exact run W D c pl B τ θ ρ hk p C d σ F H e s x
theorem ds_try {body orelse : List Stmt} {h₀ : ExceptHandler} {hds : List ExceptHandler} {l : List ((Str → Option Bool) × G)} {g e : G} {pos : Pos} (hs : X.stack = X.env :: X.outer) (hf : X.env.frame = some X.env.locals) (tk : Takes X W)
    (hb : ∀ (W : WX) (pn : List (Addr × Obj)) (xe : Value → Shared → Prop), Takes (X.tr pn xe) W → PassesOwn (model X.prog X.w) X.A X.env xe → DSs (X.tr pn xe) k W body g)
    (hh : DHs X k (h₀ :: hds) l) (he : DSs X k W orelse e) : DS X k W (.Try body (h₀ :: hds) orelse [] pos) (sTry g l e) := by
  obtain ⟨L, hL, run⟩ := hh
  refine psImp (ps_try_manyE (tb := fun W' => tS X.mg k W' g) (u := tS X.mg k W e) he hs hf tk (fun W' pn xe tk' hp => hb W' pn xe tk' hp) hL) fun D σ H ⟨B, F, ρ, τ, θ, s, hk, p⟩ => ⟨B, F, ρ, τ, θ, s, hk, ?_⟩
  unfold sTry at p
  cases q : g ρ with
  | nx ρ1 => rw [q] at p; exact fun σ' F' H' s' => ⟨B, F', ρ1, τ, θ, s', hk, p⟩
  | brk ρ1 => rw [q] at p; exact p
  | ct ρ1 => rw [q] at p; exact p
  | ret w ρ1 => rw [q] at p; exact p
  | err c pl ρ1 => rw [q] at p; exact fun C d σ' F' H' e1 s' x' => run W D c pl B τ θ ρ1 hk p C d σ' F' H' e1 s' x'
  | bad => rw [q] at p; exact p.elim
end
/-- the table is right -/
def TabOk (K : PySem.W.Frag) (mg : MG) (cv : Value) (l : List (Str × Bool)) : Prop := ∀ p ∈ l, ∀ C, mg p.1 = some (.ref C) → PySem.W.exmOne K (.ref C) cv = some p.2
theorem TabOk.get {K : PySem.W.Frag} {mg : MG} {cv : Value} {l : List (Str × Bool)} (h : TabOk K mg cv l) (c : Str) (C : Addr) (b : Bool) (e : mg c = some (.ref C)) (t : excT l c = some b) : PySem.W.exmOne K (.ref C) cv = some b := by
  have : (c, b) ∈ l := by
    induction l with
    | nil => cases t
    | cons p l ih =>
      obtain ⟨c', b'⟩ := p
      unfold excT at t
      rw [List.lookup_cons] at t
      split at t
      · rename_i h1
        cases t
        rw [eq_of_beq h1]
        exact List.mem_cons_self
      · exact List.mem_cons_of_mem _ (ih (fun q hq => h q (List.mem_cons_of_mem _ hq)) t)
  exact h _ this C e
theorem tab_nil {K : PySem.W.Frag} {mg : MG} {cv : Value} : TabOk K mg cv [] := fun p h => by cases h
theorem tab_cons {K : PySem.W.Frag} {mg : MG} {cv : Value} {c : Str} {C : Addr} {b : Bool} {l : List (Str × Bool)} (e : mg c = some (.ref C)) (h : PySem.W.exmOne K (.ref C) cv = some b) (r : TabOk K mg cv l) : TabOk K mg cv ((c, b) :: l) := fun p hp D eD => by
  rcases List.mem_cons.mp hp with rfl | hp
  · rw [e] at eD; cases eD; exact h
  · exact r p hp D eD
/-- an exception of class E, asked for class S -/
theorem exm_of {K : PySem.W.Frag} {E S : Addr} {b : Bool} (h1 : PySem.W.subIn K (.ref S) (.type "BaseException") = some true) (h2 : PySem.W.isClsIn K S = true) (h3 : PySem.W.typeIn K (.ref S) = some (.type "type")) (h4 : PySem.W.subIn K (.ref E) (.ref S) = some b) :
    PySem.W.exmOne K (.ref E) (.ref S) = some b := by
  have e1 : (PySem.W.subIn K (.ref S) (.type "BaseException") == some true) = true := by rw [h1]; rfl
  have h2' : (PySem.W.clsIn K S).isSome = true := h2
  have e2 : ((PySem.W.clsIn K S).isSome && PySem.W.typeIn K (.ref S) == some (.type "type")) = true := by rw [h2', h3]; rfl
  show (if (PySem.W.subIn K (.ref S) (.type "BaseException") == some true) = true then (if ((PySem.W.clsIn K S).isSome && PySem.W.typeIn K (.ref S) == some (.type "type")) = true then PySem.W.subIn K (.ref E) (.ref S) else none) else none) = some b
  rw [if_pos e1, if_pos e2, h4]
end L2.DL

namespace L2.DL
open L2 PyProof.Rows PySem.Spec PySem

/-! ### rows told by >= -/
def geRow (ns ms : List Int) : Bool := Ob.lexAt (fun j => decide (ns.getD j 0 = ms.getD j 0)) (fun j => decide (ms.getD j 0 ≤ ns.getD j 0)) (decide (ns.length ≥ ms.length)) 0 (min ns.length ms.length)
def rGeT (K : PySem.W.Frag) : R2 := fun x y H Q => ∃ (a b : Addr) (ns ms : List Int), x = .ref a ∧ y = .ref b ∧ SqT K H a (ns.map V.int) ∧ SqT K H b (ms.map V.int) ∧ Q (.bl (geRow ns ms)) H
theorem op_geT {X : Cx} (hu : X.A.units < cLine) : OpR X (compareOp .GtE) (rGeT X.K) := by
  intro pins s σ H x y v u Q I rx ry h
  obtain ⟨a, b, ns, ms, rfl, rfl, ha, hb, q⟩ := h
  cases rx
  cases ry
  obtain ⟨its, r1, p1, _⟩ := I.tuple ha
  obtain ⟨its2, r2, p2, _⟩ := I.tuple hb
  have i1 : IntsAre its ns := Vals.ints r1
  have i2 : IntsAre its2 ms := Vals.ints r2
  have e1 : its.toArray.size = ns.length := by rw [List.size_toArray]; exact i1.length
  have e2 : its2.toArray.size = ms.length := by rw [List.size_toArray]; exact i2.length
  have at1 : ∀ j (h1 : j < its.toArray.size), ∃ t, its.toArray[j] = .int (ns.getD j 0) t := fun j h1 => i1.int_at _ _ (by simp at h1; simp [h1])
  have at2 : ∀ j (h1 : j < its2.toArray.size), ∃ t, its2.toArray[j] = .int (ms.getD j 0) t := fun j h1 => i2.int_at _ _ (by simp at h1; simp [h1])
  have R := Ob.RcOp.tuples_ge (A := X.A) (s := s) (e := fun j => decide (ns.getD j 0 = ms.getD j 0)) (r := fun j => decide (ms.getD j 0 ≤ ns.getD j 0)) p1 p2 hu (fun j h1 h2 => by
    obtain ⟨t, et⟩ := at1 j h1
    obtain ⟨t', et'⟩ := at2 j h2
    rw [et, et', ← show (ns.getD j 0 == ms.getD j 0) = decide (ns.getD j 0 = ms.getD j 0) from by
      by_cases q : ns.getD j 0 = ms.getD j 0
      · rw [decide_eq_true q]; exact beq_iff_eq.mpr q
      · rw [decide_eq_false q]; exact beq_eq_false_iff_ne.mpr q]
    exact SeqAt.EqAt.int_int _ _ _ _) (fun j h1 h2 _ => by
    obtain ⟨t, et⟩ := at1 j h1
    obtain ⟨t', et'⟩ := at2 j h2
    rw [et, et']
    exact Ob.RcOp.ge_int _ _ _ _)
  rw [e1, e2] at R
  exact R X.prog X.w X.xe (EP X pins σ Q) ⟨.bl _, H, I, rfl, q⟩
def oGeR (a b : Val) : Option Val := match a, b with
  | .tup xs, .tup ys => (intsOf xs).bind fun ns => (intsOf ys).map fun ms => .bl (geRow ns ms)
  | _, _ => none
theorem vop_geR {K : PySem.W.Frag} : VOp2 (rGeT K) oGeR := fun F H x y wx wy w Q hF px py e k => by
  unfold oGeR at e
  split at e
  case h_2 => cases e
  case h_1 xs ys =>
  simp only [Option.bind_eq_some_iff, Option.map_eq_some_iff] at e
  obtain ⟨ns, e1, ms, e2, rfl⟩ := e
  obtain ⟨a, us, rfl, ha, g, ru⟩ := px.tup
  obtain ⟨b, vs, rfl, hb, g', rv⟩ := py.tup
  have := intsOf_rep e1 ru
  subst this
  have := intsOf_rep e2 rv
  subst this
  exact ⟨a, b, ns, ms, rfl, rfl, .of (hF _ _ ha), .of (hF _ _ hb), k _ F H (.refl hF) (.of (.bl _))⟩
theorem rm0 {k : Nat} {A : Around} (r : Room k A) : A.units < cLine := by have := r.un; omega
/-! ### name = [..], the name a plain local: the comprehension stands in the statement -/
section
variable {X : Cx} {k : Nat} {W : WX} {tg elt iter : Expr} {ifs : List Expr} {scope : Scope} {own : List (Str × Nat)} {vs : List Nat} {y : Str} {py pos spos : Pos}
theorem ds_setLcP (i : Nat) {src : P WW} {is : List Nat} {h : T} {c : P Bool} {f : P Val} (hc : X.calm = true) (hN : X.N.Nodup) (hi : DIP X tg iter src) (ok : BlkOk X.N X.env.scope scope own)
    (hg : ∀ (s : Shared) (H : Hp) (C : Addr) (cl : List (Str × Addr)) (fp : List Addr), DG (X.blk s H scope (compEnvC scope cl C X.env) fp) tg is h)
    (ht : ∀ (s : Shared) (H : Hp) (C : Addr) (cl : List (Str × Addr)) (fp : List Addr), PTs (X.blk s H scope (compEnvC scope cl C X.env) fp) ifs (tPT c))
    (he : ∀ (s : Shared) (H : Hp) (C : Addr) (cl : List (Str × Addr)) (fp : List Addr), DF (X.blk s H scope (compEnvC scope cl C X.env) fp) elt f)
    (hv : own.map (·.2) = vs := by rfl) (his : ∀ i ∈ is, i ∈ vs := by decide) (hs : ∀ x, foldedSetIterable iter X.env x = pure x := by intro _; rfl)
    (hy : X.N[i]? = some y := by rfl) (hyl : X.env.scope.names.lookup y = some .local := by rfl) (hki : k ≤ i := by decide)
    (hsw : swapsWith (.ListComp elt [⟨tg, iter, ifs, 0⟩] scope pos) (some (.Name y py)) spos.line X.env = pure true := by rfl) :
    DS X k W (.Assign [.Name y py] (.ListComp elt [⟨tg, iter, ifs, 0⟩] scope pos) spos) (sSet i (mF (pComp vs is src h c f))) := by
  subst hv
  refine psImp (ps_setLc hc hN hy hyl hsw hi ok hg ht he hs) fun D σ H ⟨B, F, ρ, τ, θ, s, hk, p⟩ => ?_
  obtain ⟨fp, hF, rl⟩ := s.view
  unfold sSet mF at p
  cases q : pComp (own.map (·.2)) is src h c f ρ with
  | none => rw [q] at p; exact p.elim
  | some w =>
    rw [q] at p
    refine pLc_of his ⟨F, ρ, fp, hF, rl, w, q, fun u F1 H1 x1 n => ?_⟩
    exact p _ F1 H1 ((s.push x1 n).store (by omega))
theorem ds_setLc (i : Nat) {src : M WW} {is : List Nat} {h : T} {c : M Bool} {f : M Val} (hc : X.calm = true) (hN : X.N.Nodup) (hi : DI X k W tg iter src) (ok : BlkOk X.N X.env.scope scope own)
    (hg : ∀ (s : Shared) (H : Hp) (C : Addr) (cl : List (Str × Addr)) (fp : List Addr), DG (X.blk s H scope (compEnvC scope cl C X.env) fp) tg is h)
    (ht : ∀ (s : Shared) (H : Hp) (C : Addr) (cl : List (Str × Addr)) (fp : List Addr), PTs (X.blk s H scope (compEnvC scope cl C X.env) fp) ifs (tVT X.mg k W0 c))
    (he : ∀ (s : Shared) (H : Hp) (C : Addr) (cl : List (Str × Addr)) (fp : List Addr), DV (X.blk s H scope (compEnvC scope cl C X.env) fp) k W0 elt f)
    (hv : own.map (·.2) = vs := by rfl) (his : ∀ i ∈ is, i ∈ vs := by decide) (hkv : ∀ i ∈ vs, k ≤ i := by decide) (hs : ∀ x, foldedSetIterable iter X.env x = pure x := by intro _; rfl)
    (hy : X.N[i]? = some y := by rfl) (hyl : X.env.scope.names.lookup y = some .local := by rfl) (hki : k ≤ i := by decide)
    (hsw : swapsWith (.ListComp elt [⟨tg, iter, ifs, 0⟩] scope pos) (some (.Name y py)) spos.line X.env = pure true := by rfl) :
    DS X k W (.Assign [.Name y py] (.ListComp elt [⟨tg, iter, ifs, 0⟩] scope pos) spos) (sSet i (mComp vs is src h c f)) := by
  subst hv
  refine psImp (ps_setLc (te := tV X.mg k W0 f) hc hN hy hyl hsw hi ok hg ht he hs) fun D σ H ⟨B, F, ρ, τ, θ, s, hk, p⟩ => ?_
  exact mLc_of his hkv ⟨B, F, ρ, τ, θ, s, hk, (PostS.ofR p).imp fun w ρ1 p1 u F1 H1 s1 => p1 _ F1 H1 (s1.store (by omega))⟩
end
end L2.DL

namespace L2.DL
open L2 PyProof.Rows PySem.Spec PySem

/-! ### a call of a def that changes nothing, slots lent, the other arguments reckoned -/
def callPB (m : List Val → R0) (as : List (Nat ⊕ Val)) (ρ1 : Slots) : R Val := match gatherA as ρ1 with
  | none => .bad
  | some (ws, ρ2) => if noObjs ws = true then (match m (frzs ws) with
    | .ok w => if (noOwns ws || noSh w) = true then .ok w (backA as (ws.map some) ρ2) else .bad
    | .err c pl => if plSh ws pl = true then .err c pl (backA as (ws.map some) ρ2) else .bad
    | .bad => .bad) else .bad
def mCallPB (m : List Val → R0) (fs : M (List (Nat ⊕ Val))) : M Val := fun ρ => (fs ρ).bind (callPB m)
theorem mCallPB_ap {m : List Val → R0} {fs : M (List (Nat ⊕ Val))} {ρ : Slots} : mCallPB m fs ρ = (fs ρ).bind (callPB m) := rfl
section
variable {X : Cx} {k j : Nat} {W : WX} {e : Expr} {es : List Expr} {fs : M (List (Nat ⊕ Val))} {pos : Pos}
theorem dv_callPB {f : Addr} {fd : FuncData} {ps : List Str} {m : List Val → R0} {x : Str} {p : Pos} (G : FnOk X.prog X.w X.K X.mg X.base (L2.CX X.prog X.w) j f fd ps (spP X.mg ps.length m)) (hr : Room j X.A) (tk : Takes X W) (hg : Gl X x) (hm : X.mg x = some (.ref f)) (hk : PySem.W.keepIn X.K (.ref f) = true) (hb : Binds X.K fd ps [])
    (hl : (e :: es).length = ps.length) (hla : ∀ ρ as ρ', fs ρ = .ok as ρ' → as.length = (e :: es).length) (ha : DA X k W (e :: es) fs) (hdb : (x == ("__debug__" : Str)) = false := by decide) (he : starEach (e :: es) X.env = (false, eval e X.env) :: starEach es X.env := by rfl) (hpl : (backTo pos (starEach es X.env)).any (·.1) = false := by rfl) :
    DV X k W (.Call (.Name x p) (e :: es) [] pos) (mCallPB m fs) := peImp (pe_callS (E := WE W) G hr hg hm hk hb (fun σ => passAt tk σ) ha hdb he hpl) fun σ H Q ⟨B, F, ρ, τ, θ, s, hk, p⟩ => by
  refine ⟨B, F, ρ, τ, θ, s, hk, ?_⟩
  unfold mCallPB at p
  cases qf : fs ρ with
  | bad => rw [qf] at p; exact p.elim
  | err c pl ρ1 => rw [qf] at p; exact p
  | ok as ρ1 =>
    rw [qf] at p
    simp only [R.bind_ok] at p
    intro us ts F1 H1 lk el s1
    unfold callPB at p
    cases qg : gatherA as ρ1 with
    | none => rw [qg] at p; exact p.elim
    | some z =>
      obtain ⟨ws, ρ2⟩ := z
      rw [qg] at p
      dsimp only at p
      obtain ⟨lw, s2⟩ := SR.gatherA lk el s1 qg
      obtain ⟨g, ra⟩ := s2.tops lw
      split at p
      case isFalse => exact p.elim
      case isTrue no =>
      refine ⟨join F1 H1 g, frzs ws, by rw [frzs_length, ← lw, link_len lk, hla _ _ _ qf]; exact hl, join_H s1.FH, ra.frz (join_le s1.FH) no fun a ha => join_mem ha, ?_⟩
      have lw' : us.length = (ws.map some).length := by rw [List.length_map]; exact lw
      have lw2 : (us.map some).length = (ws.map some).length := by rw [List.length_map]; exact lw'
      cases q : m (frzs ws) with
      | ok w' =>
        rw [q] at p
        (try dsimp only at p); (try dsimp only)
        split at p
        case isFalse => exact p.elim
        case isTrue hc =>
        intro u F' H' x2 n
        obtain ⟨F'', x3, k1, _⟩ := lend s1.FH ra x2 (.inr trivial)
        have s3 := (s2.push x3 (k1 (by simpa using hc) n)).rot lw2
        exact p u F'' H' (SR.backA lk lw'.symm s3)
      | err c pl =>
        rw [q] at p
        (try dsimp only at p); (try dsimp only)
        split at p
        case isFalse => exact p.elim
        case isTrue hc =>
        intro C d F' H' eC x2 xr
        obtain ⟨F'', x3, _, k2⟩ := lend s1.FH ra x2 (.inr trivial)
        refine p C d F'' H' eC (SR.backA lk lw'.symm (s2.ext x3)) ?_
        cases pl with
        | none => trivial
        | some z =>
          obtain ⟨dd, v, e1, e2, e3⟩ := xr
          exact ⟨dd, v, e1, e2, k2 (by simpa [plSh] using hc) e3⟩
      | bad => rw [q] at p; exact p.elim
end
end L2.DL

namespace L2.DL
open L2 PyProof.Rows PySem.Spec PySem

/-! ### sets of texts, walked only by sorted() and len() -/
section
variable {P : Program} {w : World} {A : Around} {E : Value → Shared → Prop} {s : Shared}
theorem tail_ris {ep : Nat} {es1 : Array (Int × Value)} {t2 : SetTable} {wd : Bool} (r : Ris t2.place.toList) : Ris (Froz.tailTx ep es1 t2 wd).2.2.place.toList := by
  unfold Froz.tailTx
  split
  · exact relayAll_ris _ _ _
  · exact r
theorem tail_led {ep : Nat} {es1 : Array (Int × Value)} {t2 : SetTable} {wd : Bool} : (Froz.tailTx ep es1 t2 wd).2.2.led = t2.led := by
  unfold Froz.tailTx
  split
  · exact relayAll_led _ _ _
  · rfl
theorem addTx_ris {h : Int} {v : Value} {D : Froz.SD} (r : Ris D.2.2.place.toList) : Ris (Froz.addTx h v D).2.2.place.toList := by
  have r1 := layNew_ris D.2.2 D.1 h v r
  refine tail_ris ?_
  split
  · exact r1
  · exact r1
theorem addTx_led {h : Int} {v : Value} {D : Froz.SD} : (Froz.addTx h v D).2.2.led = D.2.2.led := by
  have r1 := layNew_led D.2.2 D.1 h v
  refine tail_led.trans ?_
  split
  · exact r1
  · exact r1
/-- the set at a: the texts l, each once -/
structure SetS (P : Program) (w : World) (h : Heap) (a : Addr) (l : List Str) : Prop where
  ex : ∃ D : Froz.SD, h.get? a = some (Froz.sObj "set" D) ∧ Froz.TxOk P w D l ∧ Ris D.2.2.place.toList ∧ (w.params.followText "set-order" = true ∨ D.2.2.led = true)
  nd : l.Nodup
theorem SetS.at {h h' : Heap} {a : Addr} {l : List Str} (R : SetS P w h a l) (k : ∀ o, h.get? a = some o → h'.get? a = some o) : SetS P w h' a l := by
  obtain ⟨⟨D, ho, r⟩, nd⟩ := R
  exact ⟨⟨D, k _ ho, r⟩, nd⟩
def addU (l : List Str) (k : Str) : List Str := if k ∈ l then l else k :: l
theorem add_old {a : Addr} {D : Froz.SD} {l : List Str} {k : Str} {u : Tok} {Q : Bool → Shared → Prop} (ho : s.heap.get? a = some (Froz.sObj "set" D)) (F : Froz.TxOk P w D l) (hk : k ∈ l) (hb : l.length < scanBound)
    (h : Q false s) : wpAny (model P w) A (setAddHashed a (.str k u) (hashStr w k)) Q E s := by
  obtain ⟨es, ep, t⟩ := D
  have hd : (Froz.sObj "set" (es, ep, t)).data = .set es ep t := rfl
  have hel : ElemsOf (strKind P w) es.toList := F.el
  have hsz : es.size = l.length := F.sz
  have hkey : (strKind P w).is k (.str k u) = true := Froz.is_str k u
  unfold setAddHashed setAddHashedIn
  refine wpAny_holding (wpAny_bind (wpAny_setState_of ho hd F.fit ?_))
  dsimp only
  rw [byScan_of rfl (by omega) hel]
  simp only [↓reduceIte]
  unfold setAddByScan
  refine wpAny_bind (wpAny_bind (wpAny_rule ?_))
  refine wpAny_bind (wpAny_setScan_of (knd := strKind P w) (k := k) hkey ho hd F.fit hel ?_)
  cases hr : List.findIdx? (fun e => (strKind P w).is k e.2) es.toList with
  | some j =>
    dsimp only
    exact wpAny_pure (wpAny_pure h)
  | none =>
    exfalso
    obtain ⟨e, he, q⟩ := (F.mem k).mp hk
    have c := List.findIdx?_eq_none_iff.mp hr e he
    rw [q] at c; cases c
theorem SetS.add {a : Addr} {l : List Str} {k : Str} {u : Tok} {Q : Bool → Shared → Prop} (R : SetS P w s.heap a l) (hb : l.length + 1 < scanBound)
    (h : ∀ (b : Bool) h', Heap.SameBut a s.heap h' → SetS P w h' a (addU l k) → Q b { s with heap := h' }) : wpAny (model P w) A (setAddHashed a (.str k u) (hashStr w k)) Q E s := by
  obtain ⟨⟨D, ho, F, r, hl⟩, nd⟩ := R
  unfold addU at h
  by_cases hk : k ∈ l
  · rw [if_pos hk] at h
    exact add_old ho F hk (by omega) (h false s.heap (Heap.SameBut.refl a s.heap) ⟨⟨D, ho, F, r, hl⟩, nd⟩)
  · rw [if_neg hk] at h
    refine Froz.add_x ho F hk hb (h true _ (Heap.SameBut.update s.heap a _) ⟨⟨_, Froz.get_upd _ ho rfl, Froz.add_ok u F, addTx_ris r, ?_⟩, List.nodup_cons.mpr ⟨hk, nd⟩⟩)
    exact hl.imp id fun z => by rw [addTx_led]; exact z
def uniqS (xs : List Str) : List Str := xs.foldl addU []
theorem uniqS_take {xs : List Str} {i : Nat} {x : Str} (h : xs[i]? = some x) : uniqS (xs.take (i + 1)) = addU (uniqS (xs.take i)) x := by
  rw [List.take_add_one, h]
  simp only [uniqS, Option.toList_some, List.foldl_append, List.foldl_cons, List.foldl_nil]
theorem uniq_len : ∀ (xs l : List Str), (xs.foldl addU l).length ≤ l.length + xs.length
  | [], l => Nat.le_refl _
  | x :: xs, l => by
    have := uniq_len xs (addU l x)
    have h2 : (addU l x).length ≤ l.length + 1 := by unfold addU; split <;> simp
    rw [List.foldl_cons, List.length_cons]; omega
theorem uniqS_len (xs : List Str) : (uniqS xs).length ≤ xs.length := by have := uniq_len xs []; simpa [uniqS] using this
theorem uniq_mem (y : Str) : ∀ (xs l : List Str), y ∈ xs.foldl addU l ↔ y ∈ l ∨ y ∈ xs
  | [], l => by simp
  | x :: xs, l => by
    rw [List.foldl_cons, uniq_mem y xs]
    unfold addU
    split
    · rename_i hx
      constructor
      · rintro (h | h)
        · exact .inl h
        · exact .inr (List.mem_cons_of_mem _ h)
      · rintro (h | h)
        · exact .inl h
        · rcases List.mem_cons.mp h with rfl | h
          · exact .inl hx
          · exact .inr h
    · simp only [List.mem_cons]
      constructor
      · rintro ((h | h) | h)
        · exact .inr (.inl h)
        · exact .inl h
        · exact .inr (.inr h)
      · rintro (h | h | h)
        · exact .inl (.inr h)
        · exact .inl (.inl h)
        · exact .inr h
theorem uniqS_mem {y : Str} {xs : List Str} : y ∈ uniqS xs ↔ y ∈ xs := by simp [uniqS, uniq_mem]
theorem addU_nodup {l : List Str} {k : Str} (h : l.Nodup) : (addU l k).Nodup := by
  unfold addU
  split
  · exact h
  · rename_i hk; exact List.nodup_cons.mpr ⟨hk, h⟩
theorem uniq_nodup : ∀ (xs l : List Str), l.Nodup → (xs.foldl addU l).Nodup
  | [], _, h => h
  | x :: xs, l, h => by rw [List.foldl_cons]; exact uniq_nodup xs _ (addU_nodup h)
theorem uniqS_nodup (xs : List Str) : (uniqS xs).Nodup := uniq_nodup xs [] List.nodup_nil
/-! the texts of a list, added one by one -/
theorem fill_texts {R : Result → Shared → Prop} {I : Addr} {fp wr : List Addr} {G : Array GenState → Array GenState → Prop} {n : Nat} {Pv : Nat → Value → Prop} {St : Nat → Shared → Prop} (W : WalksS P w A.in1 I fp wr G n Pv St) (S : Addr) (hSf : S ∉ fp) (xs : List Str) (hsz : xs.length = n) (hb : n + 1 < scanBound)
    (hval : ∀ i v, Pv i v → ∃ k t, xs[i]? = some k ∧ v = .str k t) :
    ∀ (k i : Nat) (s : Shared), n - i = k → i ≤ n → St i s → SetS P w s.heap S (uniqS (xs.take i)) →
      (∀ s', Moved (S :: wr) G s s' → SetS P w s'.heap S (uniqS xs) → R (.ok (.ret .none)) s') →
      codeAny (model P w) A (.builtin "set.update.loop" ⟨[.ref S, .ref I], []⟩) R s := by
  have hSw : S ∉ wr := fun h => hSf (W.sub _ h)
  have hsub : ∀ b ∈ wr, b ∈ S :: wr := fun b hb => List.mem_cons_of_mem _ hb
  intro k
  induction k with
  | zero =>
    intro i s hk hi hst hS hR
    have hin : i = n := by omega
    subst hin
    rw [List.take_of_length_le (by omega)] at hS
    refine codeAny_builtin F.entry_set_update_loop ?_
    rw [Around.under_plainId F.plain_set_update_loop _]
    show wpAny _ A.in1 (pyNext (.ref I) >>= _) _ _ s
    refine wpAny_bind (W.done s _ _ hst fun s' hm => ?_)
    show wpAny _ A.in1 (ret Value.none) _ _ s'
    exact wpAny_pure (hR s' (hm.mono hsub) (hS.at fun o ho => hm.heap S _ hSw ho))
  | succ k ih =>
    intro i s hk hi hst hS hR
    have hlt : i < n := by omega
    refine codeAny_builtin F.entry_set_update_loop ?_
    rw [Around.under_plainId F.plain_set_update_loop _]
    show wpAny _ A.in1 (pyNext (.ref I) >>= _) _ _ s
    refine wpAny_bind (W.item i s _ _ hlt hst fun v s' hP hst' hm => ?_)
    obtain ⟨z, t, hz, rfl⟩ := hval i v hP
    have hS' : SetS P w s'.heap S (uniqS (xs.take i)) := hS.at fun o ho => hm.heap S _ hSw ho
    have ul := uniqS_len (xs.take i)
    rw [List.length_take] at ul
    show wpAny _ A.in1 (holding [Value.str z t] (setAdd S (.str z t)) >>= _) _ _ s'
    refine wpAny_bind (wpAny_holding ?_)
    unfold setAdd
    refine wpAny_holding ?_
    refine wpAny_bind ((strKind P w).pyHash (k := z) (Froz.is_str z t) ?_)
    refine SetS.add (s := { s' with toks := s'.toks + 1 }) hS' (by omega) fun b h' hsb hS2 => ?_
    rw [← uniqS_take hz] at hS2
    refine wpAny_pure ⟨plainId_quiet F.plain_set_update_loop _, ih (i + 1) _ (by omega) hlt (W.frame _ s' _ _ hst' (Nat.le_succ _) fun b hb o e => ?_) hS2 fun s'' hm'' hS'' => ?_⟩
    · rw [hsb.2 b (fun h : b = S => hSf (by rw [← h]; exact hb))]; exact e
    · refine hR s'' (Moved.trans W.gtrans ((hm.mono hsub).then_heap (Nat.le_succ _) fun b o hb e => ?_) hm'') hS''
      rw [hsb.2 b (fun h : b = S => hb (by rw [h]; exact List.mem_cons_self))]; exact e
/-- a set laid down, with nothing in it -/
def newSetObj (w : World) : Obj := { cls := .type "set", dict := none, data := .set #[] 0 (.fresh 0 0 (!w.params.followText "set-order")) }
theorem setS_fresh {h : Heap} {a : Addr} (ho : h.get? a = some (newSetObj w)) : SetS P w h a [] :=
  ⟨⟨(#[], 0, .fresh 0 0 (!w.params.followText "set-order")), ho, Froz.TxOk.nil rfl, List.Pairwise.nil, by
    show _ ∨ (!w.params.followText "set-order") = true
    cases w.params.followText "set-order"
    · exact .inr rfl
    · exact .inl rfl⟩, List.nodup_nil⟩
set_option maxHeartbeats 3200000 in
theorem call_set_texts {l : Addr} {items : Array Value} (xs : List Str) {Q : Value → Shared → Prop} (hh : A.handled = none) (hl : s.heap.IsList l items) (hit : StrsAre items.toList xs) (hb : xs.length + 1 < scanBound)
    (h : ∀ (h' : Heap) (tk : Nat), SetS P w h' s.heap.objs.size (uniqS xs) → (∀ b o, s.heap.get? b = some o → h'.get? b = some o) → Q (.ref s.heap.objs.size) { s with heap := h', toks := tk }) :
    wpAny (model P w) A (call (.type "set") [.ref l]) Q E s := by
  have hisz : xs.length = items.size := by rw [← StrsAre.len_eq hit, Array.length_toList]
  obtain ⟨c, tl, hmro⟩ := F.called_set.mro
  have hmade := F.called_set.made
  have hsub := F.called_set.sub
  refine wpAny_call (codeAny_of_tree ?_)
  show wpAny _ _ (callAny (.type "set") _) _ _ _
  refine wpAny_pure ⟨Code.quiet_builtin _ (by decide +kernel), codeAny_builtin F.entry_type_call ?_⟩
  rw [Around.under_plain (weight_type_call_type "set" [.ref l] []) rfl]
  have h1 := F.called_set.notType
  have h2 := F.called_set.canCreate
  have hct := F.typeCall_set_1 (.ref l)
  repeat (any_goals (first | assumption | wp_step))
  refine codeAny_mono (code_set_led1 (.ref l) (E := E) (Q₁ := fun obj s₁ => obj = .ref s.heap.objs.size ∧ s₁ = { s with heap := s.heap.push (newSetObj w) }) ⟨rfl, rfl⟩) fun r s₁ hr => ?_
  cases r with
  | error e => exact hr
  | ok fl =>
    cases fl with
    | ret obj =>
      obtain ⟨rfl, rfl⟩ := hr
      have hS : (s.heap.push (newSetObj w)).get? s.heap.objs.size = some (newSetObj w) := Heap.get?_push_size _ rfl
      have hT : Shared.TypeIs { s with heap := s.heap.push (newSetObj w) } (.ref s.heap.objs.size) "set" := ⟨_, hS, rfl⟩
      have hli := F.called_set.init.lookup
      have hbi := F.called_set.init.bind (.ref s.heap.objs.size)
      repeat (any_goals (first | assumption | wp_step))
      refine codeAny_mono (codeAny_call_builtin (R := wants (fun r s₂ => r = .none ∧ ∃ h' tk, s₂ = { s with heap := h', toks := tk } ∧ SetS P w h' s.heap.objs.size (uniqS xs) ∧ (∀ b o, s.heap.get? b = some o → h'.get? b = some o)) E) F.called_set.init.plain F.entry_set_init (check_set_init_1 hT ?_)) fun r₂ s₂ hr₂ => ?_
      · have hl1 : (s.heap.push (newSetObj w)).IsList l items := hl.push _
        obtain ⟨ol, hol, hcl, nl, hdl⟩ := id hl
        obtain ⟨ocls, odict, odata, oslots⟩ := ol
        simp only at hcl hdl
        subst hcl; subst hdl
        have hol' : (s.heap.push (newSetObj w)).get? l = some { cls := .type "list", dict := odict, data := .seq items nl, slots := oslots } := Heap.get?_push_of_some _ hol
        have hsls := F.sub_list_set
        have hslf := F.sub_list_frozenset
        have hne : (Value.type "list" == Value.type "dict") = false := by decide
        unfold Builtin.«set.__init__» noKeywords Builtin.Frozenset.updateFrom
        generalize hPI : pyIter = PI
        wp_walk
        subst hPI
        refine wpAny_pyIter_list hl1 ?_
        refine wpAny_bind (wpAny_runValue ?_)
        have hlS : l < s.heap.objs.size := Heap.lt_size hol
        have hh3 : A.in1.in1.in1.handled = none := by simp [hh]
        have hneI : l ≠ (s.heap.push (newSetObj w)).objs.size := by
          rw [Heap.size_push]; exact Nat.ne_of_lt (Nat.lt_succ_of_lt hlS)
        have hSf : s.heap.objs.size ∉ [(s.heap.push (newSetObj w)).objs.size, l] := by
          rw [Heap.size_push]; simp only [List.mem_cons, List.mem_singleton, List.not_mem_nil, or_false, not_or]
          exact ⟨Nat.ne_of_lt (Nat.lt_succ_self _), Nat.ne_of_gt hlS⟩
        have hval : ∀ (i : Nat) (v : Value), items[i]? = some v → ∃ k t, xs[i]? = some k ∧ v = .str k t := fun i v hv => by
          have hi : i < xs.length := by rw [hisz]; exact (Array.getElem?_eq_some_iff.mp hv).1
          obtain ⟨t, e⟩ := SS.strs_at hit i v (by rw [Array.getElem?_toList]; exact hv)
          refine ⟨xs[i], t, List.getElem?_eq_getElem hi, ?_⟩
          rw [e, List.getD_eq_getElem?_getD, List.getElem?_eq_getElem hi] <;> rfl
        refine fill_texts ((Walks.list hh3 _ l hneI items).toS) s.heap.objs.size
          hSf xs hisz (by rw [← hisz]; exact hb) hval (items.size - 0) 0 _ (by omega) (Nat.zero_le _)
          ⟨⟨_, Heap.get?_push_size _ rfl, rfl, rfl⟩, (hl1.push _)⟩ ?hS0 ?hR
        case hS0 => exact setS_fresh (Heap.get?_push_of_some _ hS)
        case hR =>
          intro s' hm hS'
          obtain ⟨h', g2, d', tk', os'⟩ := s'
          have eg : g2 = s.gens := hm.gens
          have ed : d' = s.drawn := hm.drawn
          have eo : os' = s.os := hm.os
          subst eg; subst ed; subst eo
          show wpAny _ _ _ _ _ _
          refine wpAny_pure ?_
          show wpAny _ _ (ret Value.none) _ _ _
          refine wpAny_pure ⟨rfl, h', tk', rfl, hS', fun b o e => ?_⟩
          have hb0 : b < s.heap.objs.size := Heap.lt_size e
          have hb1 : b ≠ s.heap.objs.size := Nat.ne_of_lt hb0
          have hb2 : b ≠ (s.heap.push (newSetObj w)).objs.size := by
            rw [Heap.size_push]; exact Nat.ne_of_lt (Nat.lt_succ_of_lt hb0)
          exact hm.heap b o (by simp only [List.mem_cons, List.mem_singleton, List.not_mem_nil, or_false, not_or]; exact ⟨hb1, hb2⟩) (Heap.get?_push_of_some _ (Heap.get?_push_of_some _ e))
      · cases r₂ with
        | error e => exact hr₂
        | ok fl₂ =>
          cases fl₂ with
          | ret r =>
            obtain ⟨rfl, h', tk, rfl, hS', hk'⟩ := hr₂
            repeat (any_goals (first | assumption | wp_step))
            exact h _ _ hS' hk'
          | _ => exact hr₂.elim
    | _ => exact hr.elim
end
end L2.DL
namespace L2.DL
open L2 PyProof.Rows PySem.Spec PySem
/-! ### sorted(set(xs)), len(set(xs)) -/
def leS (a b : Str) : Bool := decide (a.cps.toList ≤ b.cps.toList)
def sortS (l : List Str) : List Str := l.mergeSort leS
theorem sortS_sorted (l : List Str) : (sortS l).Pairwise fun a b => a.cps.toList ≤ b.cps.toList := by
  have := List.pairwise_mergeSort (le := leS) (fun a b c h1 h2 => by
    simp only [leS, decide_eq_true_eq] at *
    exact List.le_trans h1 h2) (fun a b => by
    simp only [leS, Bool.or_eq_true, decide_eq_true_eq]
    exact List.le_total _ _) l
  exact this.imp fun h => by simpa [leS] using h
theorem sorted_extS : ∀ {l k : List Str}, l.Pairwise (fun a b => a.cps.toList ≤ b.cps.toList) → k.Pairwise (fun a b => a.cps.toList ≤ b.cps.toList) → l.Perm k → l = k
  | [], k, _, _, h => h.nil_eq
  | a :: l, [], _, _, h => by have := h.length_eq; simp at this
  | a :: l, b :: k, hl, hk, h => by
    rw [List.pairwise_cons] at hl hk
    have e : a = b := by
      have h1 : a ∈ b :: k := h.mem_iff.mp List.mem_cons_self
      have h2 : b ∈ a :: l := h.mem_iff.mpr List.mem_cons_self
      rcases List.mem_cons.mp h1 with h1 | h1
      · exact h1
      · rcases List.mem_cons.mp h2 with h2 | h2
        · exact h2.symm
        · exact PySem.W.str_of_cps (List.le_antisymm (hl.1 b h2) (hk.1 a h1))
    subst e
    rw [sorted_extS hl.2 hk.2 ((List.perm_cons a).mp h)]
theorem sortS_eq {l k : List Str} (h : l.Perm k) : sortS l = sortS k :=
  sorted_extS (sortS_sorted l) (sortS_sorted k) ((List.mergeSort_perm l leS).trans (h.trans (List.mergeSort_perm k leS).symm))
theorem perm_of_sub {α : Type} [DecidableEq α] : ∀ (l k : List α), l.Nodup → (∀ x ∈ l, x ∈ k) → k.length ≤ l.length → l.Perm k
  | [], k, _, _, h => by
    have : k = [] := List.eq_nil_of_length_eq_zero (by simpa using h)
    subst this; exact .nil
  | a :: l, k, nd, hm, h => by
    rw [List.nodup_cons] at nd
    have ha := hm a List.mem_cons_self
    have h2 := perm_of_sub l (k.erase a) nd.2 (fun x hx => (List.mem_erase_of_ne fun e => nd.1 (by rw [← e]; exact hx)).mpr (hm x (List.mem_cons_of_mem _ hx))) (by
      rw [List.length_erase_of_mem ha]; simp only [List.length_cons] at h; omega)
    exact (h2.cons a).trans (List.perm_cons_erase ha).symm
def keyS (v : Value) : Str := match v with
  | .str k _ => k
  | _ => Str.empty
section
variable {P : Program} {w : World} {A : Around} {E : Value → Shared → Prop} {s : Shared}
theorem strsAre_keys : ∀ (vs : List Value), (∀ v ∈ vs, ∃ k t, v = Value.str k t) → PySem.W.EachIs (fun v b => ∃ t, v = Value.str b t) vs (vs.map keyS)
  | [], _ => .nil
  | v :: vs, h => by
    obtain ⟨k, t, rfl⟩ := h v List.mem_cons_self
    exact .cons ⟨t, rfl⟩ (strsAre_keys vs fun u hu => h u (List.mem_cons_of_mem _ hu))
theorem each_strsAre {vs : List Value} {bs : List Str} (h : PySem.W.EachIs (fun v b => ∃ t, v = Value.str b t) vs bs) : StrsAre vs bs := by
  induction h with
  | nil => exact .nil
  | cons h1 _ ih =>
    obtain ⟨t, rfl⟩ := h1
    exact .cons _ t ih
theorem SetS.keys {h : Heap} {a : Addr} {l : List Str} (R : SetS P w h a l) : ∃ D : Froz.SD, h.get? a = some (Froz.sObj "set" D) ∧ Froz.TxOk P w D l ∧ Ris D.2.2.place.toList ∧ (w.params.followText "set-order" = true ∨ D.2.2.led = true) ∧
    (∀ e ∈ D.1.toList, ∃ k t, e.2 = Value.str k t) ∧ (D.1.toList.map fun e => keyS e.2).Perm l := by
  obtain ⟨⟨D, ho, F, r, hl⟩, nd⟩ := R
  have hs : ∀ e ∈ D.1.toList, ∃ k t, e.2 = Value.str k t := fun e he => by
    obtain ⟨⟨k, hk, _⟩, _⟩ := F.el e he
    obtain ⟨t, ht⟩ := Value.isStrOf_shape hk
    exact ⟨k, t, ht⟩
  refine ⟨D, ho, F, r, hl, hs, (perm_of_sub l _ nd (fun k hk => ?_) ?_).symm⟩
  · obtain ⟨e, he, q⟩ := (F.mem k).mp hk
    obtain ⟨t, ht⟩ := Value.isStrOf_shape q
    exact List.mem_map.mpr ⟨e, he, by rw [ht]; rfl⟩
  · rw [List.length_map, Array.length_toList, F.sz]
    exact Nat.le_refl _
theorem sorted_texts {a : Addr} {l : List Str} {Q : Value → Shared → Prop} (R : SetS P w s.heap a l) (hh : A.handled = none) (hb : l.length + 1 < scanBound) (hu : A.units + 64 < cLine)
    (hQ : ∀ s' p (out : Array Value) (c : Nat), (∀ b o, s.heap.get? b = some o → s'.heap.get? b = some o) → s'.gens = s.gens → s'.os = s.os → s.heap.objs.size ≤ p →
      s'.heap.get? p = some (seqObj "list" out c) → StrsAre out.toList (sortS l) → Q (.ref p) s') :
    wpAny (model P w) A (call (.builtin "sorted") [.ref a]) Q E s := by
  obtain ⟨D, ho, F, r, hl, hs, pk⟩ := R.keys
  obtain ⟨es, ep, t⟩ := D
  have hsz : es.size = l.length := F.sz
  have hb0 : es.size < scanBound := by omega
  refine Calls.call_function_entry kind_sorted plain_sorted entry_sorted (args_sorted1 _) ?_
  unfold Builtin.«sorted»
  refine wpAny_bind (m := checkCount "sorted" 1 1 _) (wpAny_pure ?_)
  refine wpAny_bind (collect_set (A := A.in1) hh ⟨_, ho, rfl, rfl⟩ F.fit hb0 r hl fun s1 vs k1 hz g1 o1 pm => ?_)
  have hvs : ∀ v ∈ vs, ∃ k t, v = Value.str k t := fun v hv => by
    obtain ⟨e, he, rfl⟩ := List.mem_map.mp (pm.mem_iff.mp hv)
    exact hs e he
  have pv : (vs.map keyS).Perm l := by
    have q := pm.map keyS
    rw [List.map_map] at q
    exact q.trans pk
  have hvl : vs.length = l.length := by rw [← pv.length_eq, List.length_map]
  have hz2 : vs.length ≤ sizeLine := by
    have : scanBound ≤ sizeLine := by decide
    omega
  refine wpAny_bind (wpAny_newList ?_ hz2)
  have hoL : (s1.heap.push (seqObj "list" vs.toArray 0)).get? s1.heap.objs.size = some (seqObj "list" vs.toArray 0) := Heap.get?_push_size _ rfl
  have e1 := strsAre_keys vs hvs
  have er : PySem.W.EachIs (fun v b => ∃ as, Reads (s1.heap.push (seqObj "list" vs.toArray 0)) v (PyData.str b) as ∧ s1.heap.objs.size ∉ as) vs (vs.map keyS) := e1.mono fun v b h => by
    obtain ⟨t, rfl⟩ := h
    exact ⟨[], .str _ _, List.not_mem_nil⟩
  refine wpAny_bind (wpAny_holding (PySem.W.list_sort_data (enc := PyData.str) (s := { s1 with heap := s1.heap.push (seqObj "list" vs.toArray 0) }) hoL e1 er
    (PySem.W.AllAlike.of fun b b' => by simp [PySem.W.alike]) (PySem.W.Sortable.others fun b => ⟨by simp, fun xs => by simp⟩) (by rw [List.length_map]; exact hz2) (fun b _ => ?_) fun out ho2 eo => ?_))
  · show A.units + 1 + 1 + (PyData.str b).depth < cLine
    simp only [PyData.depth]; omega
  · obtain ⟨c, hc⟩ := sortedHeap_at (vs := vs) (out := List.toArray out) hoL
    have so : (vs.map keyS).mergeSort (PySem.W.dataLe false PyData.str) = sortS l := by
      have : PySem.W.dataLe false PyData.str = leS := PySem.W.dataLe_str (fun s : Str => s)
      rw [this]
      exact sortS_eq pv
    rw [so] at eo
    refine wpAny_pure ⟨_, rfl, hQ _ s1.heap.objs.size (List.toArray out) c (fun b u e => ?_) g1 o1 hz hc (by simpa using each_strsAre eo)⟩
    have q := k1 b u e
    have hlt := Heap.lt_size q
    show (sortedHeap (s1.heap.push (seqObj "list" vs.toArray 0)) s1.heap.objs.size vs (List.toArray out)).get? b = some u
    rw [sortedHeap_old (Nat.ne_of_lt hlt) (by rw [size_push']; exact Nat.lt_succ_of_lt hlt)]
    exact Heap.get?_push_of_some _ q
end
/-! expressions -/
section
variable {X : Cx} {a : Expr} {ta : TE} {fa : P Val} {p p2 q pos : Pos}
def tSortSet (K : PySem.W.Frag) (ta : TE) : TE := fun σ H Q => ta σ H fun x H1 => ∃ l, ∃ xs : List Str, x = .ref l ∧ SqL K H1 l (xs.map V.str) ∧ xs.length < 4000 ∧ ∀ p, H1 p = none → Q (.ref p) (upd H1 p (.lst ((sortS (uniqS xs)).map V.str)))
def tLenSetX (K : PySem.W.Frag) (ta : TE) : TE := fun σ H Q => ta σ H fun x H1 => ∃ l, ∃ xs : List Str, x = .ref l ∧ SqL K H1 l (xs.map V.str) ∧ xs.length < 4000 ∧ Q (.int (uniqS xs).length) H1
theorem vals_strs : ∀ {ys : List Str} {us : List Value}, StrsAre us ys → Vals (ys.map V.str) us
  | _, _, .nil => .nil
  | _, _, .cons n t h => .cons ⟨t, rfl⟩ (vals_strs h)
theorem pe_sortSet (hc : X.calm = true) (hu : X.A.units + 64 < cLine) (hg : Gl X "sorted") (hm : X.mg "sorted" = none) (hg2 : Gl X "set") (hm2 : X.mg "set" = none) (ha : PE X a ta)
    (na : starEach [a] X.env = (false, eval a X.env) :: starEach [] X.env := by rfl) : PE X (.Call (.Name "sorted" p) [.Call (.Name "set" p2) [a] [] q] [] pos) (tSortSet X.K ta) := by
  refine ⟨fun pins s σ H Q I h => ?_⟩
  refine Call_ (ld_blt I hg hm boot_sorted ?_)
  refine PyProof.Rows.callWith_builtin1 (PyProof.Rows.args_cons ?_ rfl) rfl rfl
  refine Call_ (ld_blt I hg2 hm2 boot_set ?_)
  refine PyProof.Rows.callWith_type1 (PyProof.Rows.args_cons (thn (ha.run pins s σ H _ I h) fun v s1 ⟨x, H1, I1, r1, q1⟩ => PyProof.Rows.args_nil ?_) na) na rfl
  obtain ⟨l, xs, rfl, hq, h1, q1⟩ := q1
  cases r1
  obtain ⟨its, r, pl, hz⟩ := I1.list hq
  refine call_set_texts xs (I1.ok.hd hc) pl.isList (by simpa using strsAre_of r) (by unfold scanBound; omega) fun h' tk hS hk => ?_
  refine PyProof.Rows.args_nil ?_
  have I2 : Inv X pins σ H1 { s1 with heap := h', toks := tk } := I1.kept fun b o e => hk b o e
  have ul := uniqS_len xs
  have hS : SetS X.prog X.w ({ s1 with heap := h', toks := tk } : Shared).heap s1.heap.objs.size (uniqS xs) := hS
  generalize ({ s1 with heap := h', toks := tk } : Shared) = s2 at *
  refine sorted_texts (s := s2) hS (I2.ok.hd hc) (by unfold scanBound; omega) hu fun s' p out c k g o hp hg hout => ?_
  have hlen : ((sortS (uniqS xs)).map V.str).length ≤ sizeLine := by
    rw [List.length_map, sortS, List.length_mergeSort, sizeLine_eq]; omega
  have hn : H1 p = none := I2.hok.fresh hp
  have J : Inv X pins σ (upd H1 p (.lst ((sortS (uniqS xs)).map V.str))) { s2 with heap := s'.heap, gens := s'.gens, drawn := s'.drawn, toks := s'.toks } :=
    I2.call (ch := []) (Un.laid k hp hn) (I2.hok.laid k hp ⟨hlen, out.toList, c, vals_strs hout, hg⟩) (by rw [g]; exact I2.bare) (fun _ z => nomatch z)
  have e : s' = { s2 with heap := s'.heap, gens := s'.gens, drawn := s'.drawn, toks := s'.toks } := by
    cases s'
    cases s2
    cases o
    rfl
  rw [e]
  exact ⟨.ref p, _, J, rfl, q1 p hn⟩
theorem pe_lenSetX (hc : X.calm = true) (hg : Gl X "len") (hm : X.mg "len" = none) (hg2 : Gl X "set") (hm2 : X.mg "set" = none) (ha : PE X a ta)
    (na : starEach [a] X.env = (false, eval a X.env) :: starEach [] X.env := by rfl) : PE X (.Call (.Name "len" p) [.Call (.Name "set" p2) [a] [] q] [] pos) (tLenSetX X.K ta) := by
  refine ⟨fun pins s σ H Q I h => ?_⟩
  refine Call_ (ld_blt I hg hm boot_len ?_)
  refine PyProof.Rows.callWith_builtin1 (PyProof.Rows.args_cons ?_ rfl) rfl rfl
  refine Call_ (ld_blt I hg2 hm2 boot_set ?_)
  refine PyProof.Rows.callWith_type1 (PyProof.Rows.args_cons (thn (ha.run pins s σ H _ I h) fun v s1 ⟨x, H1, I1, r1, q1⟩ => PyProof.Rows.args_nil ?_) na) na rfl
  obtain ⟨l, xs, rfl, hq, h1, q1⟩ := q1
  cases r1
  obtain ⟨its, r, pl, hz⟩ := I1.list hq
  refine call_set_texts xs (I1.ok.hd hc) pl.isList (by simpa using strsAre_of r) (by unfold scanBound; omega) fun h' tk hS hk => ?_
  refine PyProof.Rows.args_nil ?_
  have I2 : Inv X pins σ H1 { s1 with heap := h', toks := tk } := I1.kept fun b o e => hk b o e
  obtain ⟨D, ho, F, _⟩ := hS.keys
  have ul := uniqS_len xs
  have hn : D.1.size = (uniqS xs).length := F.sz
  refine call_len_set ho ⟨rfl, rfl, rfl⟩ rfl F.fit (by rw [hn]; have : sizeLine = 16777216 := sizeLine_eq; omega) ⟨.int (uniqS xs).length, H1, I2.tok _, ⟨_, by rw [hn]⟩, q1⟩
def oSortSet : Val → Option Val
  | .lst _ ws => (strsOf ws).bind fun ss => if ss.length < 4000 then some (.lst true ((sortS (uniqS ss)).map .str)) else none
  | _ => none
def oLenSet : Val → Option Val
  | .lst _ ws => (strsOf ws).bind fun ss => if ss.length < 4000 then some (.int (uniqS ss).length) else none
  | _ => none
theorem df_sortSet (hc : X.calm = true) (hu : X.A.units + 64 < cLine) (hg : Gl X "sorted") (hm : X.mg "sorted" = none) (hg2 : Gl X "set") (hm2 : X.mg "set" = none) (ha : DP X a fa)
    (na : starEach [a] X.env = (false, eval a X.env) :: starEach [] X.env := by rfl) : DF X (.Call (.Name "sorted" p) [.Call (.Name "set" p2) [a] [] q] [] pos) (pOp1 oSortSet fa) := peImp (pe_sortSet hc hu hg hm hg2 hm2 ha na) fun σ H Q ⟨F, ρ, fp, hF, r, w, ew, k⟩ => by
  unfold pOp1 at ew
  simp only [Option.bind_eq_some_iff] at ew
  obtain ⟨x, e1, e2⟩ := ew
  refine ⟨F, ρ, fp, hF, r, x, e1, fun u F1 H1 x1 p1 => ?_⟩
  cases x with
  | lst o ws =>
    simp only [oSortSet, Option.bind_eq_some_iff] at e2
    obtain ⟨ss, e3, e4⟩ := e2
    split at e4
    case isFalse => cases e4
    case isTrue hl =>
    cases e4
    obtain ⟨ad, us, rfl, hd, g, pu⟩ := p1.lst x1.FH
    have eu := strsOf_rep e3 pu
    subst eu
    refine ⟨ad, ss, rfl, .of hd, hl, fun p np => ?_⟩
    obtain ⟨x2, n2⟩ := Nw.lst x1.FH np (strs_rep (F := F1) (H := H1) (sortS (uniqS ss)))
    exact k _ _ _ (x1.trans x2) (n2.ext x1 x2)
  | _ => cases e2
theorem df_lenSet (hc : X.calm = true) (hg : Gl X "len") (hm : X.mg "len" = none) (hg2 : Gl X "set") (hm2 : X.mg "set" = none) (ha : DP X a fa)
    (na : starEach [a] X.env = (false, eval a X.env) :: starEach [] X.env := by rfl) : DF X (.Call (.Name "len" p) [.Call (.Name "set" p2) [a] [] q] [] pos) (pOp1 oLenSet fa) := peImp (pe_lenSetX hc hg hm hg2 hm2 ha na) fun σ H Q ⟨F, ρ, fp, hF, r, w, ew, k⟩ => by
  unfold pOp1 at ew
  simp only [Option.bind_eq_some_iff] at ew
  obtain ⟨x, e1, e2⟩ := ew
  refine ⟨F, ρ, fp, hF, r, x, e1, fun u F1 H1 x1 p1 => ?_⟩
  cases x with
  | lst o ws =>
    simp only [oLenSet, Option.bind_eq_some_iff] at e2
    obtain ⟨ss, e3, e4⟩ := e2
    split at e4
    case isFalse => cases e4
    case isTrue hl =>
    cases e4
    obtain ⟨ad, us, rfl, hd, g, pu⟩ := p1.lst x1.FH
    have eu := strsOf_rep e3 pu
    subst eu
    exact ⟨ad, ss, rfl, .of hd, hl, k _ _ _ x1 (.of (.int _))⟩
  | _ => cases e2
end
end L2.DL

namespace L2.DL
open L2 PyProof.Rows PySem.Spec PySem
/-! ### is True -/
def oIsB : Val → Val → Option Val
  | .bl a, .bl b => some (.bl (decide (a = b)))
  | _, _ => none
theorem vop_isB : VOp2 (fun x y H Q => ∃ a b, x = V.bl a ∧ y = V.bl b ∧ Q (.bl (decide (a = b))) H) oIsB := fun F H x y wx wy w Q hF ⟨g, rx⟩ ⟨g', ry⟩ e k => by
  cases wx <;> cases wy <;> simp [oIsB] at e
  subst e
  cases rx; cases ry
  exact ⟨_, _, rfl, rfl, k _ F H (.refl hF) (.of (.bl _))⟩
theorem oIsB_ap (a b : Bool) : oIsB (.bl a) (.bl b) = some (.bl (decide (a = b))) := rfl
end L2.DL

namespace L2.DL
open L2 PyProof.Rows PySem.Spec PySem

/-! ### raise of an own class whose __init__ keeps one field -/
def spInit (K : PySem.W.Frag) (f : Str) : Sp := fun vs H Q _ => ∃ (a C : Addr) (y : V), vs = [.ref a, y] ∧ OexC K C ∧ PySem.W.findIn K (.ref C) f = some none ∧ H a = some (exo a C none) ∧
  ∀ dx, H dx = none → dx ≠ a → Q .non (L2.upd (L2.upd H dx (exd dx [(f, y)])) a (exo a C (some dx)))
theorem fn_init {P : Program} {w : World} {K : PySem.W.Frag} {mg : Str → Option Value} {base : Heap} {qual f : Str} {st : Stmt} {fI : Addr} {fd : FuncData} {k : Nat} (F : Fun K "__init__" qual st fI fd) (S : FnScope ["self", f] ["self", f] (defScope st))
    (hps : ∀ (cdv : Value) (A : Around) (outer : List Env) (s : Shared) (H : Hp) (E : XK), PSs (cxOf CX0 P w K mg base ["self", f] qual (defScope st) fI cdv A outer s H E).nox (defBody st) (tOst K f (tVar 0) (tVar 1))) :
    FnOk P w K mg base CX0 (k + 1) fI fd ["self", f] (spInit K f) :=
  F.ok S (fun vs H Q E ⟨a, C, y, e, _⟩ => by rw [e]; rfl) fun cdv A outer s H vs Q E hr h => by
    obtain ⟨a, C, y, rfl, T, hno, ea, q⟩ := h
    exact ⟨_, hps cdv A outer s H E, y, rfl, .ref a, rfl, a, C, rfl, T, hno, .inl ⟨ea, fun dx n ne => q dx n ne⟩⟩
def sRaiseI (x f : Str) (fe : P Val) : G := fun ρ => match fe ρ with
  | some w => if noOwn w = true then .err x (some (f, w)) ρ else .bad
  | none => .bad
theorem sRaiseI_ap {x f : Str} {fe : P Val} {ρ : Slots} : sRaiseI x f fe ρ = (match fe ρ with
  | some w => if noOwn w = true then .err x (some (f, w)) ρ else .bad
  | none => .bad) := rfl
section
variable {X : Cx} {k : Nat} {W : WX}
theorem ds_raiseI {x f : Str} {C fI : Addr} {fd : FuncData} {fe : P Val} {e : Expr} {p pos pos' : Pos} (hc : X.calm = true) (tk : Takes X W) (gC : X.mg x = some (.ref C)) (T : OexC X.K C) (iC : PySem.W.findIn X.K (.ref C) "__init__" = some (some (.ref fI))) (tI : PySem.W.typeIn X.K (.ref fI) = some (.type "function"))
    (F1 : FnOk X.prog X.w X.K X.mg X.base CX0 1 fI fd ["self", f] (spInit X.K f)) (hr : Room 2 X.A) (hb : Binds X.K fd ["self", f] []) (hno : PySem.W.findIn X.K (.ref C) f = some none) (hg : Gl X x) (he : DP X e fe)
    (hdb : (x == ("__debug__" : Str)) = false := by decide) (hs : starEach [e] X.env = (false, eval e X.env) :: starEach [] X.env := by rfl) (hpl : (backTo pos (starEach [] X.env)).any (·.1) = false := by rfl) :
    DS X k W (.Raise (some (.Call (.Name x p) [e] [] pos)) none pos') (sRaiseI x f fe) :=
  psImp (ps_raise hc tk (pmk_oex (CX := CX0) (dvs := []) (ds := []) T iC tI F1 hr hb .nil pass0 hg gC (pa_cons he pa_nil hs) hdb hs hpl)) fun D σ H ⟨B, F, ρ, τ, θ, s, hk, p⟩ => by
    unfold sRaiseI at p
    cases q : fe ρ with
    | none => rw [q] at p; exact p.elim
    | some w =>
      rw [q] at p
      dsimp only at p
      split at p
      case isFalse => exact p.elim
      case isTrue n =>
      obtain ⟨fp, hF, rl⟩ := s.view
      refine ⟨F, ρ, fp, hF, rl, w, q, fun u F1 H1 x1 p1 => ⟨by simp, fun a na => ?_⟩⟩
      obtain ⟨g, r⟩ := p1
      have eg := r.nofp n
      subst eg
      refine ⟨a, C, u, rfl, T, hno, upd_same, fun dx nd ne => ⟨rfl, dx, [(f, u)], upd_same, ?_, ?_, ?_⟩⟩
      · rw [upd_ne ne, upd_same]
      · rw [upd_ne ne] at nd; exact nd
      · rw [upd_ne ne] at nd
        have eh : L2.upd (del (L2.upd (L2.upd (L2.upd H1 a (exo a C none)) dx (exd dx [(f, u)])) a (exo a C (some dx))) a) dx (.xd [(f, u)]) = L2.upd H1 dx (.xd [(f, u)]) := by
          funext b
          by_cases hb : b = dx
          · subst hb; rw [upd_same, upd_same]
          · rw [upd_ne hb, upd_ne hb]
            by_cases ha : b = a
            · subst ha; rw [del_same, na]
            · rw [del_ne ha, upd_ne ha, upd_ne hb, upd_ne ha]
        rw [eh]
        have xl := (Ext.laid (o := .xd [(f, u)]) x1.FH nd).1
        exact p C (some dx) σ F1 _ gC (s.ext (x1.trans xl)) ⟨dx, u, rfl, upd_same, r.mono (Le.refl _) fun b hb => by cases hb⟩
/-! ### try: .. except C as n: y = ('..', n.f) -/
def sTryAs (g : G) (x : Str) (t : Str → Option Bool) (i j : Nat) (word f : Str) : G := fun ρ => match g ρ with
  | .err c pl ρ1 => (match t c with
    | some true => (match pl with
      | some (f', w) => if c = x ∧ f' = f ∧ i < ρ1.length then .nx (((ρ1.set i none).set j (some (.tup [.str word, w]))).set i none) else .bad
      | none => .bad)
    | some false => .err c pl ρ1
    | none => .bad)
  | r => r
theorem ds_tryAs {x n word f : Str} {C : Addr} {i j : Nat} {body : List Stmt} {st : Stmt} {g : G} {t : Str → Option Bool} {np pos pos' : Pos} (hs : X.stack = X.env :: X.outer) (hf : X.env.frame = some X.env.locals) (hN : X.N.Nodup) (hi : X.N[i]? = some n) (hln : X.env.kindOf n = some .local) (gC : X.mg x = some (.ref C)) (hc : Names X x (.ref C)) (tk : Takes X W)
    (hb : ∀ (W : WX) (pn : List (Addr × Obj)) (xe : Value → Shared → Prop), Takes (X.tr pn xe) W → PassesOwn (model X.prog X.w) X.A X.env xe → DSs (X.tr pn xe) k W body g)
    (ht : ∀ c D b, X.mg c = some (.ref D) → t c = some b → PySem.W.exmOne X.K (.ref D) (.ref C) = some b)
    (hsu : ∀ (a : Addr) (oe : Obj) (cls : Value) (d : Option Addr) (pn : List (Addr × Obj)), Zc cls d oe → (∃ vs, oe.data = .fields vs) → PSs (X.suite a ((a, oe) :: pn)) [st] (tAsg (tTup (tCons (tC (.str word)) (tCons (tXf a cls d C f (tVar i)) tNil))) (gName j)))
    (hki : k ≤ i := by decide) (hkj : k ≤ j := by decide) :
    DS X k W (.Try body [.ExceptHandler (some (.Name x np)) (some n) [st] pos'] [] [] pos) (sTryAs g x t i j word f) :=
  psImp (ps_try_as (tb := fun W' => tS X.mg k W' g) (ts := fun a cls d => tAsg (tTup (tCons (tC (.str word)) (tCons (tXf a cls d C f (tVar i)) tNil))) (gName j)) hs hf hN hi hln hc tk hb hsu) fun D σ H ⟨B, F, ρ, τ, θ, s, hk, p⟩ => ⟨B, F, ρ, τ, θ, s, hk, by
    unfold sTryAs at p
    cases q : g ρ with
    | nx ρ1 => rw [q] at p; exact p
    | brk ρ1 => rw [q] at p; exact p
    | ct ρ1 => rw [q] at p; exact p
    | ret w ρ1 => rw [q] at p; exact p
    | bad => rw [q] at p; exact p.elim
    | err c pl ρ1 =>
      rw [q] at p
      dsimp only at p
      intro C' d σ' F' H' eC s' xr
      cases q2 : t c with
      | none => rw [q2] at p; exact p.elim
      | some b =>
        rw [q2] at p
        refine ⟨b, ht c C' b eC q2, fun hb1 a na => ?_, fun hb0 => ?_⟩
        · subst hb1
          dsimp only at p
          cases pl with
          | none => exact p.elim
          | some z =>
            obtain ⟨f', w⟩ := z
            dsimp only at p
            split at p
            case isFalse => exact p.elim
            case isTrue hh =>
            obtain ⟨rfl, rfl, hil⟩ := hh
            have e2 : C' = C := by rw [eC] at gC; cases gC; rfl
            subst e2
            obtain ⟨dd, v, rfl, hx, rv⟩ := xr
            have hil' : i < σ'.length := by rw [s'.len]; exact hil
            refine ⟨.ref a, by rw [List.getElem?_set_self hil'], rfl, rfl, dd, _, v, rfl, hx, by simp [List.lookup], by show 2 ≤ sizeLine; decide, fun p1 np => ?_⟩
            obtain ⟨x1, n1⟩ := Nw.tup s'.FH np (Reps.cons (f1 := []) (f2 := []) (.str word) (.cons (f1 := []) (f2 := []) rv .nil))
            have s2 := (((s'.kill (i := i) (x := some (.ref a)) (by omega)).push x1 n1).store (i := j) (by omega)).kill (i := i) (x := none) (by omega)
            exact p _ _ _ s2
        · subst hb0
          exact p C' d σ' F' H' eC s' xr⟩
end
end L2.DL

namespace L2.DL
open L2 PyProof.Rows PySem.Spec PySem

/-! ### dict(xs), xs a list of pairs whose keys are tuples -/
section
variable {prog : Program} {w : World} {A : Around} {E : Value → Shared → Prop}
abbrev tk (prog : Program) (w : World) : HeapKind prog w (List Key) := tupleKind (mixKind prog w)
theorem isT_but {h h' : Heap} {ks : List Key} {a I : Addr} (x : (tk prog w).is h ks a) (hs : Heap.ExtBut I h h') (n : a ≠ I) : (tk prog w).is h' ks a := by
  obtain ⟨o, items, m, h1, h2, h3, h4⟩ := x
  exact ⟨o, items, m, hs a o n h1, h2, h3, h4⟩
theorem isT_ne {h : Heap} {ks : List Key} {a b : Addr} {o : Obj} (x : (tk prog w).is h ks a) (ho : h.get? b = some o) (hc : o.cls ≠ .type "tuple") : a ≠ b := by
  rintro rfl
  obtain ⟨o', items, m, h1, h2, _⟩ := x
  rw [ho] at h1; cases h1; exact hc h2
theorem dictOfH_but {h h' : Heap} {S I : Addr} {o : Obj} {acc : List (List Key × Addr × Value)} (hm : h.DictOfH (tk prog w) S acc) (ho : h.get? I = some o) (hc : o.cls ≠ .type "tuple") (hs : Heap.ExtBut I h h') (hSI : S ≠ I) : h'.DictOfH (tk prog w) S acc := by
  obtain ⟨od, es, ep, h1, h2, h3, h4, h5, h6⟩ := hm
  exact ⟨od, es, ep, hs _ _ hSI h1, h2, h3, h4, fun x hx => isT_but (h5 x hx) hs (isT_ne (h5 x hx) ho hc), h6⟩
def storedAll (acc rest : List (List Key × Addr × Value)) : List (List Key × Addr × Value) := rest.foldl (fun a q => storedH a q.1 q.2.1 q.2.2) acc
theorem storedH_len (xs : List (List Key × Addr × Value)) (k : List Key) (a : Addr) (v : Value) : (storedH xs k a v).length ≤ xs.length + 1 := by
  unfold storedH
  split <;> simp
theorem updT_loop {R : Result → Shared → Prop} {S I l : Addr} {items : Array Value} {res : Value} (hh : A.handled = none) (hu : A.units + 1 < cLine) (hlI : l ≠ I) (hSI : S ≠ I) (hSl : S ≠ l) :
    ∀ (rest : List (List Key × Addr × Value)) (i : Nat) (acc : List (List Key × Addr × Value)) (ix : Int) (t : Tok) (s : Shared), items.size = i + rest.length → acc.length + rest.length ≤ sizeLine →
      (∀ (j : Nat) (q : List Key × Addr × Value), rest[j]? = some q → ∃ b : Addr, items[i + j]? = some (.ref b) ∧ b ≠ S ∧ b ≠ I ∧ q.2.1 ≠ S ∧ q.2.1 ≠ I ∧ IsTup s.heap b #[.ref q.2.1, q.2.2] ∧ (tk prog w).is s.heap q.1 q.2.1) →
      s.heap.IsListIter I l i → s.heap.IsList l items → s.heap.DictOfH (tk prog w) S acc →
      (∀ h' tk', h'.DictOfH (tk prog w) S (storedAll acc rest) → (∀ b o, b ≠ S → b ≠ I → s.heap.get? b = some o → h'.get? b = some o) → R (.ok (.ret res)) { s with heap := h', toks := tk' }) →
      codeAny (model prog w) A (.builtin "dict.update.loop" ⟨[.ref S, .ref I, .int ix t, res], []⟩) R s
  | [], i, acc, ix, t, s, hsz, hln, ht, hit, hl, hm, hR => by
    refine codeAny_builtin ud_entry ?_
    rw [Around.under_plainId ud_plain _]
    show wpAny _ A.in1 (pyNext (.ref I) >>= _) _ _ s
    refine wpAny_bind (wpAny_pyNext_list_end (A := A.in1) hh hit hl (by first | exact Array.getElem?_eq_none (Nat.le_of_eq hsz) | (simp at hsz; simp; omega)) fun h' he => ?_)
    show wpAny _ A.in1 (Builtin.Dict.addKeywords S [] >>= _) _ _ _
    refine wpAny_bind (wpAny_pure (wpAny_pure ?_))
    obtain ⟨oi, hoi, hci, _⟩ := id hit
    exact hR h' s.toks (dictOfH_but hm hoi (by rw [hci]; simp) he hSI) fun b o _ hb e => he b o hb e
  | q :: rest, i, acc, ix, t, s, hsz, hln, ht, hit, hl, hm, hR => by
    obtain ⟨b, hb, hbS, hbI, hkS, hkI, htup, hk⟩ := ht 0 q rfl
    rw [List.length_cons] at hsz hln
    refine codeAny_builtin ud_entry ?_
    rw [Around.under_plainId ud_plain _]
    show wpAny _ A.in1 (pyNext (.ref I) >>= _) _ _ s
    obtain ⟨oi, hoi, hci, _⟩ := id hit
    have nci : oi.cls ≠ .type "tuple" := by rw [hci]; simp
    refine wpAny_bind (wpAny_pyNext_list_item (x := .ref b) hit hl (by simpa using hb) fun h1 hit1 hs1 => ?_)
    have ht1 : IsTup h1 b #[.ref q.2.1, q.2.2] := htup.extBut hs1.extBut hbI
    have hl1 : h1.IsList l items := hl.extBut hs1.extBut hlI
    have hm1 : h1.DictOfH (tk prog w) S acc := dictOfH_but hm hoi nci hs1.extBut hSI
    obtain ⟨o, ho, hc, n, hd⟩ := id ht1
    show wpAny _ A.in1 (holding [Value.ref b] _ >>= _) _ _ _
    refine wpAny_bind (wpAny_holding ?_)
    refine wpAny_bind (wpAny_tryCatch ?_)
    unfold Builtin.Dict.pairItems
    refine wpAny_bind (wpAny_typeOf (T := "tuple") ⟨o, ho, hc⟩ ?_)
    rw [if_pos (by first | decide | rfl | simp)]
    refine wpAny_bind (wpAny_seqItems ho hd (wpAny_pure ?_))
    show wpAny _ A.in1 (holding [.ref q.2.1, q.2.2] (dictSet S (.ref q.2.1) q.2.2)) _ _ _
    refine wpAny_holding (wpAny_dictSet_heap (knd := tk prog w) (k := q.1) hu (isT_but hk hs1.extBut hkI) hm1 (fun h2 hm2 hs2 => ?_) (by omega))
    have sl := storedH_len acc q.1 q.2.1 q.2.2
    refine wpAny_pure ⟨plainId_quiet ud_plain _, updT_loop (items := items) hh hu hlI hSI hSl rest (i + 1) (storedH acc q.1 q.2.1 q.2.2) (ix + 1) 0 _ (show items.size = i + 1 + rest.length by omega) (by omega) (fun j q' e => ?_) ?_ ?_ hm2 fun h' tk' hd' k => ?_⟩
    · obtain ⟨b', hb', hbS', hbI', hkS', hkI', htup', hk'⟩ := ht (j + 1) q' (by simpa using e)
      refine ⟨b', ?_, hbS', hbI', hkS', hkI', (htup'.extBut hs1.extBut hbI').extBut hs2.extBut hbS', isT_but (isT_but hk' hs1.extBut hkI') hs2.extBut hkS'⟩
      rw [show i + 1 + j = i + (j + 1) by omega]
      exact hb'
    · exact hit1.at fun o' e => hs2.extBut I o' (Ne.symm hSI) e
    · exact hl1.extBut hs2.extBut (Ne.symm hSl)
    · exact hR h' tk' hd' fun c oc h3 h4 e => k c oc h3 h4 (hs2.extBut c oc h3 (hs1.extBut c oc h4 e))
theorem call_dict_tpairs {s : Shared} {l : Addr} {ol : Obj} {items : Array Value} {n : Nat} {prs : List (List Key × Addr × Value)} {Q : Value → Shared → Prop} (hh : A.handled = none) (hu : A.units + 32 < cLine) (hl : s.heap.get? l = some ol) (hc : ol.cls = .type "list") (hd : ol.dict = none)
    (hdat : ol.data = .seq items n) (hsz : items.size = prs.length) (hln : prs.length ≤ sizeLine)
    (ht : ∀ (j : Nat) (q : List Key × Addr × Value), prs[j]? = some q → ∃ b : Addr, items[j]? = some (.ref b) ∧ IsTup s.heap b #[.ref q.2.1, q.2.2] ∧ (tk prog w).is s.heap q.1 q.2.1)
    (h : ∀ h' tk', h'.DictOfH (tk prog w) s.heap.objs.size (storedAll [] prs) → (∀ b o, s.heap.get? b = some o → h'.get? b = some o) → Q (.ref s.heap.objs.size) { s with heap := h', toks := tk' }) :
    wpAny (model prog w) A (call (.type "dict") [.ref l]) Q E s := by
  refine callType_codes (Q₁ := fun obj s₁ => obj = .ref s.heap.objs.size ∧ s₁ = { s with heap := s.heap.push { cls := .type "dict", data := .dict #[] } }) PySem.F.kt_called_dict (PySem.F.kt_typeCall_dict_1 _) PySem.F.entry_dict_init (kt_code_dict_new _ ⟨rfl, rfl⟩) ?_
  rintro obj s₁ ⟨rfl, rfl⟩
  have hnew : (s.heap.push { cls := .type "dict", data := .dict #[] }).DictOfH (tk prog w) s.heap.objs.size [] := Heap.DictOfH.new s.heap
  have k0 : ∀ b o, s.heap.get? b = some o → (s.heap.push { cls := .type "dict", data := .dict #[] }).get? b = some o := fun b o e => Heap.get?_push_of_some _ e
  refine ⟨hnew.typeIs, PySem.F.args_dict_init_2 _ _, ?_⟩
  unfold Builtin.«dict.__init__»
  refine wpAny_bind ?_
  unfold Builtin.Dict.selfAndRest
  refine wpAny_bind (wpAny_notOrdered_dict hnew.typeIs ?_)
  show wpAny _ _ (pure (s.heap.objs.size, [Value.ref l])) _ _ _
  refine wpAny_pure ?_
  show wpAny _ _ (Builtin.Dict.updateFrom "dict.__init__" s.heap.objs.size (.ref l) [] .none) _ _ _
  unfold Builtin.Dict.updateFrom
  refine wpAny_bind (wpAny_typeOf (T := "list") ⟨ol, k0 _ _ hl, hc⟩ ?_)
  rw [if_pos (by first | decide | rfl | simp)]
  refine wpAny_bind (miss_list (k0 _ _ hl) hc hdat hd hh fun h1 tk1 hk1 => ?_)
  rw [if_pos (show (none : Option Value).isNone = true from rfl)]
  refine wpAny_bind (wpAny_rule ?_)
  have hl1 : h1.IsList l items := ⟨ol, hk1 _ _ (k0 _ _ hl), hc, n, hdat⟩
  have hS1 : s.heap.objs.size < h1.objs.size := by
    have e : (s.heap.push { cls := .type "dict", data := .dict #[] }).get? s.heap.objs.size = some { cls := .type "dict", data := .dict #[] } := Heap.get?_push_size _ rfl
    exact Heap.lt_size (hk1 _ _ e)
  refine wpAny_bind (wpAny_pyIter_list hl1 ?_)
  have k2 : ∀ b o, h1.get? b = some o → (h1.push { cls := .type "list_iterator", data := .fields #[.ref l, .int 0 0] }).get? b = some o := fun b o e => Heap.get?_push_of_some _ e
  have hlt : l < s.heap.objs.size := Heap.lt_size hl
  have kA : ∀ b o, s.heap.get? b = some o → (h1.push { cls := .type "list_iterator", data := .fields #[.ref l, .int 0 0] }).get? b = some o := fun b o e => k2 _ _ (hk1 _ _ (k0 _ _ e))
  have hD : (h1.push { cls := .type "list_iterator", data := .fields #[.ref l, .int 0 0] }).DictOfH (tk prog w) s.heap.objs.size [] := by
    obtain ⟨od, es, ep, h1', h2', h3', h4', h5', h6'⟩ := hnew
    exact ⟨od, es, ep, k2 _ _ (hk1 _ _ h1'), h2', h3', h4', (fun x hx => by cases hx), h6'⟩
  have key := updT_loop (prog := prog) (w := w) (A := A.in1) (R := wants (fun r s₂ => r = .none ∧ Q (.ref s.heap.objs.size) s₂) E) (S := s.heap.objs.size) (I := h1.objs.size) (l := l) (items := items) (res := Value.none) hh (show A.units + 1 + 1 < cLine by omega)
    (Nat.ne_of_lt (Nat.lt_trans hlt hS1)) (Nat.ne_of_lt hS1) (Nat.ne_of_gt hlt) prs 0 [] 0 0
    { s with heap := h1.push { cls := .type "list_iterator", data := .fields #[.ref l, .int 0 0] }, toks := tk1 } (by rw [hsz, Nat.zero_add]) (by rw [List.length_nil, Nat.zero_add]; exact hln)
    (fun j q e => by
      obtain ⟨b, e1, e2, e3⟩ := ht j q e
      have hb : b < s.heap.objs.size := e2.lt
      have hk : q.2.1 < s.heap.objs.size := by
        obtain ⟨o', items', m, z1, _⟩ := e3
        exact Heap.lt_size z1
      refine ⟨b, by rw [Nat.zero_add]; exact e1, Nat.ne_of_lt hb, Nat.ne_of_lt (Nat.lt_trans hb hS1), Nat.ne_of_lt hk, Nat.ne_of_lt (Nat.lt_trans hk hS1), e2.keeps fun c o z => kA _ _ z, ?_⟩
      obtain ⟨o', items', m, z1, z2, z3, z4⟩ := e3
      exact ⟨o', items', m, kA _ _ z1, z2, z3, z4⟩)
    ⟨_, Heap.get?_push_size _ rfl, rfl, rfl⟩ (hl1.at fun o e => k2 _ _ e) hD
    (fun h' tk' hd' k => ⟨rfl, h h' tk' hd' fun b o e => k b o (Nat.ne_of_lt (Heap.lt_size e)) (Nat.ne_of_lt (Nat.lt_trans (Heap.lt_size e) hS1)) (kA _ _ e)⟩)
  first
    | exact wpAny_pure ⟨plainId_quiet ud_plain _, key⟩
    | exact wpAny_bind (wpAny_pure (wpAny_pure ⟨plainId_quiet ud_plain _, key⟩))
end
end L2.DL
namespace L2.DL
open L2 PyProof.Rows PySem.Spec PySem
section
variable {X : Cx}
def mergeT {α : Type} (acc : List (List Key × V)) (kvs : List ((List Key × α) × V)) : List (List Key × V) := kvs.foldl (fun a kv => putK a kv.1.1 kv.2) acc
theorem tpairs_of {pins : List (Addr × Obj)} {σ : St} {H : Hp} {s : Shared} (I : Inv X pins σ H s) : ∀ {ps : List Addr} {kvs : List ((List Key × Addr) × V)}, Paired (fun p (kv : (List Key × Addr) × V) => SqT X.K H p [.ref kv.1.2, kv.2] ∧ H kv.1.2 = some (.tup (kv.1.1.map kV))) ps kvs →
    ∃ prs : List (List Key × Addr × Value), Paired (fun (kv : (List Key × Addr) × V) (q : List Key × Addr × Value) => q.1 = kv.1.1 ∧ q.2.1 = kv.1.2 ∧ RelV kv.2 q.2.2) kvs prs ∧ prs.length = ps.length ∧
      ∀ (j : Nat) (q : List Key × Addr × Value), prs[j]? = some q → ∃ b : Addr, ps[j]? = some b ∧ IsTup s.heap b #[.ref q.2.1, q.2.2] ∧ (tk X.prog X.w).is s.heap q.1 q.2.1
  | _, _, .nil => ⟨[], .nil, rfl, fun j q e => by simp at e⟩
  | _, _, .cons (a := p) (b := kv) ⟨h, hk⟩ t => by
    obtain ⟨prs, r, hl, hp⟩ := tpairs_of I t
    obtain ⟨its, rv, ht, _⟩ := I.tuple h
    obtain ⟨u, y, ei, ru, ry⟩ := vals2 rv
    subst ei
    cases (show u = Value.ref kv.1.2 from ru)
    refine ⟨(kv.1.1, kv.1.2, y) :: prs, .cons ⟨rfl, rfl, ry⟩ r, by rw [List.length_cons, List.length_cons, hl], fun j q e => ?_⟩
    cases j with
    | zero =>
      have e' : (kv.1.1, kv.1.2, y) = q := Option.some.inj e
      subst e'
      exact ⟨p, rfl, ht, key_of I.hok hk⟩
    | succ j =>
      obtain ⟨b, e1, e2, e3⟩ := hp j q (by simpa using e)
      exact ⟨b, by simpa using e1, e2, e3⟩
theorem kt_merge {H : Hp} : ∀ {kvs : List ((List Key × Addr) × V)} {prs : List (List Key × Addr × Value)} {acc : List (List Key × V)} {xs : List (List Key × Addr × Value)}, Paired (fun (kv : (List Key × Addr) × V) (q : List Key × Addr × Value) => q.1 = kv.1.1 ∧ q.2.1 = kv.1.2 ∧ RelV kv.2 q.2.2) kvs prs →
    (∀ kv ∈ kvs, H kv.1.2 = some (.tup (kv.1.1.map kV))) → KT H acc xs → KT H (mergeT acc kvs) (storedAll xs prs)
  | _, _, acc, xs, .nil, _, r => r
  | _, _, acc, xs, .cons (a := kv) (b := q) (l₁ := kvs) (l₂ := prs) ⟨h1, h2, h3⟩ t, hk, r => by
    have hb := hk kv List.mem_cons_self
    have r2 := r.put kv.1.1 hb h3
    have := kt_merge t (fun kv' h => hk kv' (List.mem_cons_of_mem _ h)) r2
    obtain ⟨q1, q2, q3⟩ := q
    dsimp only at h1 h2 h3
    subst h1; subst h2
    exact this
theorem putK_len (xs : List (List Key × V)) (k : List Key) (v : V) : (putK xs k v).length ≤ xs.length + 1 := by
  unfold putK
  split <;> simp
theorem mergeT_len {α : Type} : ∀ (kvs : List ((List Key × α) × V)) (acc : List (List Key × V)), (mergeT acc kvs).length ≤ acc.length + kvs.length
  | [], acc => Nat.le_refl _
  | kv :: kvs, acc => by
    have h1 := mergeT_len kvs (putK acc kv.1.1 kv.2)
    have h2 := putK_len acc kv.1.1 kv.2
    show (mergeT (putK acc kv.1.1 kv.2) kvs).length ≤ _
    rw [List.length_cons]; omega
def rDictT (K : PySem.W.Frag) : List V → Hp → VK → Prop := fun xs H Q => ∃ (a : Addr) (ps : List Addr) (kvs : List ((List Key × Addr) × V)), xs = [.ref a] ∧ SqL K H a (ps.map V.ref) ∧ Paired (fun p (kv : (List Key × Addr) × V) => SqT K H p [.ref kv.1.2, kv.2] ∧ H kv.1.2 = some (.tup (kv.1.1.map kV))) ps kvs ∧
  ∀ p, H p = none → Q (.ref p) (L2.upd H p (.dT (mergeT [] kvs)))
theorem paired_all {α β : Type} {R : α → β → Prop} {p : β → Prop} : ∀ {as : List α} {bs : List β}, Paired R as bs → (∀ a b, R a b → p b) → ∀ b ∈ bs, p b
  | _, _, .nil, _, b, hb => by cases hb
  | _, _, .cons h t, k, b, hb => by
    rcases List.mem_cons.mp hb with rfl | hb
    · exact k _ _ h
    · exact paired_all t k b hb
theorem call_dictT (hcalm : X.calm = true) (hu : X.A.units + 64 < cLine) : CallR X (.type "dict") (rDictT X.K) := by
  intro pins s σ H xs us Q I r q
  obtain ⟨a, ps, kvs, ex, hq, hp, q⟩ := q
  subst ex
  obtain ⟨u, eu, rx⟩ := vals1 r
  subst eu
  cases rx
  obtain ⟨its, rv, pl, hz⟩ := I.list hq
  have ei := refs_at rv
  subst ei
  rw [List.length_map] at hz
  obtain ⟨prs, rel, hl, hpr⟩ := tpairs_of I hp
  obtain ⟨o, n, ho, hc, hd, hdat⟩ := pl
  refine call_dict_tpairs (prs := prs) (I.ok.hd hcalm) (by omega) ho hc hd hdat (by simp [hl]) (by rw [hl]; exact hz) (fun j q' e => ?_) fun h' tk' hd' k => ?_
  · obtain ⟨b, e1, e2, e3⟩ := hpr j q' e
    exact ⟨b, by simp [e1], e2, e3⟩
  · have hm : (s.heap.objs.size == sysModules) = false := beq_eq_false_iff_ne.mpr (Nat.ne_of_gt I.big)
    have hlen : (mergeT [] kvs).length ≤ sizeLine := by
      refine Nat.le_trans (mergeT_len kvs []) ?_
      rw [List.length_nil, Nat.zero_add, rel.length, hl]
      exact hz
    have hn : H s.heap.objs.size = none := I.hok.fresh (Nat.le_refl _)
    have kt0 : KT H (mergeT [] kvs) (storedAll [] prs) := kt_merge rel (paired_all hp fun _ _ h => h.2) .nil
    have kt : KT (L2.upd H s.heap.objs.size (.dT (mergeT [] kvs))) (mergeT [] kvs) (storedAll [] prs) := KT.keeps kt0 fun b ys e => by rw [upd_ne (ne_of_none e hn)]; exact e
    obtain ⟨od, es, ep, d1, d2, d3, d4, d5, d6⟩ := hd'
    exact ⟨.ref s.heap.objs.size, L2.upd H s.heap.objs.size (.dT (mergeT [] kvs)), I.laid (t' := tk') k (Nat.le_refl _) (show ObjOk X.prog X.w _ _ _ (.dT (mergeT [] kvs)) from ⟨hlen, hm, _, kt, od, es, ep, d1, d2, d3, d4, d6⟩), rfl, q _ hn⟩
/-! the same by values -/
def pairsW : List Val → Option (List (List Key × Val))
  | [] => some []
  | .tup [.tup kw, v] :: ws => (keysV kw).bind fun k => if noOwn v = true then (pairsW ws).map fun l => (k, v) :: l else none
  | _ :: _ => none
def foldW (acc : List (List Key) × List Val) (l : List (List Key × Val)) : List (List Key) × List Val := l.foldl (fun a p => putL a.1 a.2 p.1 p.2) acc
def oDict (ws : List Val) : Option Val := match ws with
  | [.lst _ ws] => (pairsW ws).map fun l => .dT true (foldW ([], []) l).1 (foldW ([], []) l).2
  | _ => none
theorem pairsW_rep {K : PySem.W.Frag} {F H : Hp} (hF : Le F H) : ∀ {ws : List Val} {l : List (List Key × Val)} {us : List V} {g : List Addr}, pairsW ws = some l → Reps F H us ws g →
    ∃ (ps : List Addr) (kvs : List ((List Key × Addr) × V)), us = ps.map V.ref ∧ Paired (fun p (kv : (List Key × Addr) × V) => SqT K H p [.ref kv.1.2, kv.2] ∧ H kv.1.2 = some (.tup (kv.1.1.map kV))) ps kvs ∧
      Paired (fun (kv : (List Key × Addr) × V) (p : List Key × Val) => kv.1.1 = p.1 ∧ Rep F H kv.2 p.2 []) kvs l
  | [], l, us, g, e, r => by
    cases e; cases r
    exact ⟨[], [], rfl, .nil, .nil⟩
  | w :: ws, l, us, g, e, r => by
    cases r with
    | cons r1 r2 =>
      unfold pairsW at e
      split at e
      · rename_i h; cases h
      · rename_i kw v ws' h
        cases h
        simp only [Option.bind_eq_some_iff] at e
        obtain ⟨k, e1, e2⟩ := e
        split at e2
        case isFalse => cases e2
        case isTrue n =>
        simp only [Option.map_eq_some_iff] at e2
        obtain ⟨l', e3, rfl⟩ := e2
        obtain ⟨ps, kvs, rfl, p1, p2⟩ := pairsW_rep (K := K) hF e3 r2
        cases r1 with
        | @tup a xs _ _ ha rs =>
          cases rs with
          | cons q1 q2 =>
            cases q2 with
            | cons q3 q4 =>
              cases q4
              cases q1 with
              | @tup b ys _ _ hb ks =>
                have ek := keysV_rep e1 ks
                subst ek
                have eg := q3.nofp n
                subst eg
                exact ⟨a :: ps, ((k, b), _) :: kvs, rfl, .cons ⟨.of (hF _ _ ha), hF _ _ hb⟩ p1, .cons ⟨rfl, q3⟩ p2⟩
      · cases e
theorem foldW_rep {F H : Hp} : ∀ {kvs : List ((List Key × Addr) × V)} {l : List (List Key × Val)} {ks : List (List Key)} {us : List V} {ws : List Val}, Paired (fun (kv : (List Key × Addr) × V) (p : List Key × Val) => kv.1.1 = p.1 ∧ Rep F H kv.2 p.2 []) kvs l → ks.length = us.length → Reps F H us ws [] →
    ∃ us', mergeT (ks.zip us) kvs = (foldW (ks, ws) l).1.zip us' ∧ (foldW (ks, ws) l).1.length = us'.length ∧ Reps F H us' (foldW (ks, ws) l).2 []
  | _, _, ks, us, ws, .nil, el, r => ⟨us, rfl, el, r⟩
  | _, _, ks, us, ws, .cons (a := kv) (b := p) ⟨h1, h2⟩ t, el, r => by
    obtain ⟨us1, e1, l1, r1⟩ := putL_rep (k := kv.1.1) (u := kv.2) (w := p.2) el r h2
    obtain ⟨us2, e2, l2, r2⟩ := foldW_rep t l1 r1
    rw [h1] at e1 e2 l2 r2
    refine ⟨us2, ?_, l2, r2⟩
    show mergeT (putK (ks.zip us) kv.1.1 kv.2) _ = _
    rw [h1, e1]
    exact e2
theorem vdict {K : PySem.W.Frag} : VOpS (rDictT K) oDict := fun F H xs ws w Q hF p e k => by
  match ws, e with
  | [.lst o vs], e =>
    simp only [oDict, Option.map_eq_some_iff] at e
    obtain ⟨l, e1, rfl⟩ := e
    obtain ⟨u, rfl, pu⟩ := p.one
    obtain ⟨a, us, rfl, ha, g, pus⟩ := pu.lst hF
    obtain ⟨ps, kvs, rfl, p1, p2⟩ := pairsW_rep (K := K) hF e1 pus
    refine ⟨a, ps, kvs, rfl, .of ha, p1, fun q nq => ?_⟩
    obtain ⟨us', e2, l2, r2⟩ := foldW_rep (ks := []) (us := []) (ws := []) p2 rfl .nil
    have x2 := (Ext.laid (o := .dT (mergeT [] kvs)) hF nq).1
    have em : mergeT ([] : List (List Key × V)) kvs = (foldW ([], []) l).1.zip us' := e2
    refine k _ F _ x2 ⟨[q], .tow (fp := []) (by rw [upd_same, em]) l2 (r2.mono (Le.refl _) fun b hb => by cases hb), fun b => ?_, fun b hb => ?_⟩
    · by_cases hbq : b = q
      · subst hbq; simp
      · have : List.count b [q] = 0 := by rw [List.count_eq_zero]; simp [hbq]
        omega
    · rw [List.mem_singleton] at hb
      subst hb
      refine ⟨nq, ?_⟩
      cases z : F b with
      | none => rfl
      | some o => have := hF b o z; rw [nq] at this; cases this
/-! ### d[k] op= e, d a dict from tuples in a slot -/
theorem get_dict (hu : X.A.units + 1 < cLine) : PGet X (fun o i H Q => ∃ a z, o = V.ref a ∧ DGet H a i (some z) ∧ Q z H) := by
  intro pins s σ H o i ov iv Q I ro ri h
  obtain ⟨a, z, rfl, g, q⟩ := h
  cases (show ov = Value.ref a from ro)
  exact d_getItem hu I g ri fun w' s' I' r => ⟨z, H, I', r, q⟩
def sAugD (i : Nat) (fi : P Val) (op : Val → Val → Option Val) (fe : P Val) : G := fun ρ => match (ρ[i]?).join with
  | some (.dT true ks ws) => (match fi ρ with
    | some (.tup kw) => (match keysV kw with
      | some k => (match lookL ks ws k, fe ρ with
        | some x, some y => (match op x y with
          | some z => if (noOwn z && noOwns ws) = true ∧ ks.length < sizeLine then .nx (ρ.set i (some (.dT true (putL ks ws k z).1 (putL ks ws k z).2))) else .bad
          | none => .bad)
        | _, _ => .bad)
      | none => .bad)
    | _ => .bad)
  | _ => .bad
theorem ds_augD (i : Nat) {k : Nat} {W : WX} {x : Str} {px tpos pos : Pos} {ie e : Expr} {op : Operator} {ti : TIp} {o : Val → Val → Option Val} {fi fe : P Val} (hu : X.A.units + 1 < cLine) (ho : PIp X op ti) (hv : VIp ti o) (hi : DP X ie fi) (he : DP X e fe)
    (hN : X.N[i]? = some x := by rfl) (hvi : Vis X.env.scope x := by first | exact Or.inl rfl | exact Or.inr (Or.inl rfl) | exact Or.inr (Or.inr rfl)) (hd : (x == ("__debug__" : Str)) = false := by decide)
    (hcd : (x == ("__classdict__" : Str)) = false := by decide)
    (ha : ∀ ov iv new, augStore ie ov iv new = (do holding [new, ov, iv] (setItem ov iv new); release [new, ov, iv] []; pure .next) := by intros; rfl) :
    DS X k W (.AugAssign (.Subscript (.Name x px) ie tpos) op e pos) (sAugD i fi o fe) := psImp (ps_augS (pe_var hN hvi hd hcd) hi (get_dict hu) he ho (set_dict hu) ha) fun D σ H ⟨B, F, ρ, τ, θ, s, hk, p⟩ => by
  unfold sAugD at p
  cases q0 : (ρ[i]?).join with
  | none => rw [q0] at p; exact p.elim
  | some w0 =>
    rw [q0] at p
    cases w0 with
    | dT ow ks ws =>
      cases ow with
      | false => exact p.elim
      | true =>
        dsimp only at p
        cases q1 : fi ρ with
        | none => rw [q1] at p; exact p.elim
        | some iw =>
          rw [q1] at p
          cases iw with
          | tup kw =>
            dsimp only at p
            cases qk : keysV kw with
            | none => rw [qk] at p; exact p.elim
            | some kk =>
              rw [qk] at p
              dsimp only at p
              cases q2 : lookL ks ws kk with
              | none => rw [q2] at p; exact p.elim
              | some xw =>
                rw [q2] at p
                cases q3 : fe ρ with
                | none => rw [q3] at p; exact p.elim
                | some y =>
                  rw [q3] at p
                  dsimp only at p
                  cases q4 : o xw y with
                  | none => rw [q4] at p; exact p.elim
                  | some z =>
                    rw [q4] at p
                    dsimp only at p
                    split at p
                    case isFalse => exact p.elim
                    case isTrue hc =>
                    simp only [Bool.and_eq_true] at hc
                    obtain ⟨v, ev, pv⟩ := s.get (join_some q0)
                    obtain ⟨fp, hF, rl⟩ := s.view
                    refine ⟨v, ev, F, ρ, fp, hF, rl, _, q1, fun iu F1 H1 x1 pk1 => ?_⟩
                    have s1 := s.ext x1
                    have e0 : dGet (.dT true ks ws) (.tup kw) = some (some xw) := by simp only [dGet, qk, Option.map_some, q2]
                    obtain ⟨ad, r, ev2, _, dg, k1, _⟩ := dGet_rep s1.FH (pv.ext x1) pk1 e0
                    subst ev2
                    obtain ⟨u', rfl, pu⟩ := k1 _ rfl
                    refine ⟨ad, u', rfl, dg, ?_⟩
                    obtain ⟨fp1, hF1, rl1⟩ := s1.view
                    refine ⟨F1, ρ, fp1, hF1, rl1, y, q3, fun yv F2 H2 x2 pk2 => ?_⟩
                    have s2 := s1.ext x2
                    refine hv F2 H2 u' yv xw y z _ s2.FH (pu.ext x2) pk2 q4 fun zv F3 H3 x3 nz => ?_
                    have s3 := s2.push x3 nz
                    obtain ⟨bb, ys, eb, hb, gb, rb⟩ := ((pk1.ext x2).ext x3).tup
                    subst eb
                    have ek := keysV_rep qk rb
                    subst ek
                    obtain ⟨v', g, gus, ev', rx, rus, c1, km⟩ := SR.open (us := [zv]) (ws := [z]) (a := 0) (gi := []) rfl s3 (join_some q0)
                    rw [ev] at ev'; cases ev'
                    cases rus with
                    | @cons _ _ _ _ g1 g2 r1 r2 =>
                    cases r2
                    cases rx with
                    | @tow a _ xs _ gx hA hl rxs =>
                    have := rxs.nofp hc.1.2
                    subst this
                    have := r1.nofp hc.1.1
                    subst this
                    obtain ⟨us', e3, e4, e5⟩ := putL_rep (k := kk) hl rxs r1
                    refine ⟨ad, _, rfl, DPut.t hA (s3.FH _ _ hb) (by rw [List.length_zip, hl]; rw [hl] at hc; simpa using hc.2), ?_⟩
                    have na : ∀ {g : List Addr}, g = [] → ∀ c ∈ g, (L2.upd H3 ad (.dT (putK (ks.zip xs) kk zv))) c = H3 c := fun e c hcm => by subst e; cases hcm
                    exact p _ _ _ ((km (g' := [ad]) (v2 := .non) (w2 := .non) (gv := []) List.mem_cons_self (fun z e => by rw [hA] at e; cases e) (.tow (xs := us') (by rw [upd_same, e3]) e4 (e5.mono (.refl _) (na rfl))) .non (fun c => by simp only [List.count_nil]; omega)).pop)
          | _ => exact p.elim
    | _ => exact p.elim
end
end L2.DL

namespace L2.DL
open L2 PyProof.Rows PySem.Spec PySem
/-! ### a value shared from its birth on -/
def mFz (m : M Val) : M Val := fun ρ => (m ρ).bind fun w ρ1 => if noObj w = true then .ok (frz w) ρ1 else .bad
theorem mFz_ap {m : M Val} {ρ : Slots} : mFz m ρ = (m ρ).bind fun w ρ1 => if noObj w = true then .ok (frz w) ρ1 else .bad := rfl
theorem dv_fz {X : Cx} {k : Nat} {W : WX} {e : Expr} {m : M Val} (h : DV X k W e m) : DV X k W e (mFz m) := peImp h fun σ H Q ⟨B, F, ρ, τ, θ, s, hk, p⟩ => ⟨B, F, ρ, τ, θ, s, hk, by
  unfold mFz at p
  exact (Post.bind p).imp fun w ρ1 p1 u F1 H1 s1 => by
    by_cases n : noObj w = true
    · rw [if_pos n] at p1
      obtain ⟨F2, _, s2⟩ := s1.freezeTop n
      exact p1 u F2 H1 s2
    · rw [if_neg n] at p1
      exact p1.elim⟩
end L2.DL

namespace RT
open L2 PyProof.Rows PySem.Spec PySem L2.DL
-- is_name, k01
def l1_is_name : G :=
    (sIf (mT (pTest (pOp2 oNotIn (pVar 1) (pC (.str "abcdefghijklmnopqrstuvwxyz"))))) (sRet (mF (pC (.bl false)))) sNil)
def g_is_name : G :=
    (sSeq (sIf (mT (pNot (pTest (pChain oLe oLe (pC (.int 1)) (pOpS oLen (psCons (pVar 0) psNil)) (pC (.int 8)))))) (sRet (mF (pC (.bl false)))) sNil)
    (sSeq (sFor [1] gN (mSeq (mP (pVar 0))) l1_is_name)
    (sRet (mF (pC (.bl true))))))
def m_is_name : List Val → R0 := fnP 2 (g_is_name)

-- law_bag, k01
noncomputable def l1_law_bag (K : PySem.W.Frag) : G :=
    (sSet 1 (mF (pOp2 oMod (pOp2 oAdd (pOp2 oMul (pVar 1) (pC (.int 1009))) (pVar 2)) (pC (.int 1000003)))))
noncomputable def g_law_bag (K : PySem.W.Frag) : G :=
    (sSeq (sSet 1 (mF (pOpS oLen (psCons (pSlice K (pVar 0) poNone (poSome (pC (.int 63)))) psNil))))
    (sSeq (sFor [2] gN (mSeq (mF (pSlice K (pVar 0) poNone (poSome (pC (.int 63)))))) (l1_law_bag K))
    (sRet (mOpS gLstM (msCons (mF (pOpS oList (psCons (pSlice K (pVar 0) poNone (poSome (pC (.int 63)))) psNil))) (msCons (mF (pC (.int 0))) (msCons (mF (pC (.int 0))) (msCons (mP (pVar 1)) msNil))))))))
noncomputable def m_law_bag (K : PySem.W.Frag) : List Val → R0 := fnP 3 (g_law_bag K)

-- law_pull, k01
def g_law_pull : G :=
    (sSeq (sIf (mT (pTest (pOp2 oLe (pOp2 oSubs (pVar 0) (pC (.int 2))) (pC (.int 1))))) (sSeq (sAugL 0 (pC (.int 1)) ipAdd (pC (.int 1)))
    (sSeq (sSet 2 (mP (pOp2 oSubs (pVar 0) (pC (.int 3)))))
    (sSeq (sIf (mT (pTest (pOp2 oLe (pOp2 oSubs (pVar 0) (pC (.int 1))) (pOpS oLen (psCons (pOp2 oSubs (pVar 0) (pC (.int 0))) psNil))))) (sSet 2 (mP (pOp2 oSubs (pOp2 oSubs (pVar 0) (pC (.int 0))) (pOp2 oSub (pOp2 oSubs (pVar 0) (pC (.int 1))) (pC (.int 1)))))) sNil)
    (sSeq (sIf (mT (pOr (pTest (pOp2 oGt (pOp2 oSubs (pVar 0) (pC (.int 1))) (pOpS oLen (psCons (pOp2 oSubs (pVar 0) (pC (.int 0))) psNil)))) (pTest (pOp2 oLt (pVar 2) (pOp2 oPow (pC (.int 10)) (pC (.int 18))))))) (sSeq (sSet 3 (mF (pOp2 oMod (pOp2 oAdd (pOp2 oAdd (pOp2 oMul (pVar 2) (pC (.int 48271))) (pOp2 oMul (pOp2 oSubs (pVar 0) (pC (.int 1))) (pC (.int 16807)))) (pC (.int 11))) (pC (.int 2147483647)))))
    (sSeq (sSet 3 (mF (pOp2 oMod (pOp2 oMul (pVar 3) (pVar 3)) (pC (.int 2147483629)))))
    (sRet (mF (pOp2 oMod (pOp2 oDiv (pOp2 oMod (pOp2 oMul (pOp2 oAdd (pVar 3) (pOp2 oSubs (pVar 0) (pC (.int 1)))) (pC (.int 69621))) (pC (.int 998244353))) (pC (.int 13))) (pVar 1)))))) sNil)
    (sPut 0 (mF (pC (.int 2))) (mP (pVar 2))))))) sNil)
    (sSeq (sSet 4 (mF (pOp2 oMod (pOp2 oSubs (pVar 0) (pC (.int 2))) (pVar 1))))
    (sSeq (sPut 0 (mF (pC (.int 2))) (mF (pOp2 oDiv (pOp2 oSubs (pVar 0) (pC (.int 2))) (pVar 1))))
    (sRet (mMove 4)))))
def m_law_pull : List Val → R1 := fnIO 5 2 (g_law_pull)

-- law_word, k01
def g_law_word : G :=
    (sSeq (sSet 2 (mF (pC (.str "abcdefghijklmnopqrstuvwxyz"))))
    (sRet (mMet isStr gJoin (mF (pC (.str ""))) (msCons (mComp [3] [3] (mRng (msCons (mP (pVar 1)) msNil)) gN (mT pYes) (mIxL oIx 2 (mCallIO (m_law_pull) (aSlot 0 (aVal (mF (pC (.int 26))) aNil))))) msNil))))
def m_law_word : List Val → R1 := fnIO 4 2 (g_law_word)

-- law_truth, k01
def g_law_truth : G :=
    (sRet (mP (pAndV (pIsi "bool" (pVar 0)) (pOp2 oEq (pVar 0) (pVar 1)))))
def m_law_truth : List Val → R0 := fnP 2 (g_law_truth)

-- law, k01
noncomputable def l1_law (K : PySem.W.Frag) : G :=
    (sIf (mT (pTest (pOp2 oNotIn (pVar 6) (pC (.str "abcdefghijklmnopqrstuvwxyz"))))) (sSet 5 (mF (pC (.bl false)))) sNil)
noncomputable def g_law (K : PySem.W.Frag) : G :=
    (sSeq (sSet 1 (mF (pOpS (callP (m_law_bag K)) (psCons (pVar 0) psNil))))
    (sSeq (sSet 2 (mCallIO (m_law_word) (aSlot 1 (aVal (mCallIO (m_law_pull) (aSlot 1 (aVal (mF (pC (.int 12))) aNil))) aNil))))
    (sSeq (sSet 3 (mF (pC (.str " ABZaz0129_-+.=*#!/~{|}()[]<>,;:?@^&'\\\n"))))
    (sSeq (sIf (mAnd (mT (pTest (pOp2 oNe (pVar 2) (pC (.str ""))))) (mTest (mOp2 oEq (mCallIO (m_law_pull) (aSlot 1 (aVal (mF (pC (.int 2))) aNil))) (mF (pC (.int 1)))))) (sSeq (sSet 4 (mCallIO (m_law_pull) (aSlot 1 (aVal (mF (pOpS oLen (psCons (pVar 2) psNil))) aNil))))
    (sSet 2 (mOp2 oAdd (mOp2 oAdd (mF (pSl (pVar 2) poNone (poSome (pVar 4)))) (mIxL oIx 3 (mCallIO (m_law_pull) (aSlot 1 (aVal (mF (pOpS oLen (psCons (pVar 3) psNil))) aNil))))) (mF (pSl (pVar 2) (poSome (pOp2 oAdd (pVar 4) (pC (.int 1)))) poNone))))) sNil)
    (sSeq (sSet 5 (mF (pChain oLe oLe (pC (.int 1)) (pOpS oLen (psCons (pVar 2) psNil)) (pC (.int 8)))))
    (sSeq (sFor [6] gN (mSeq (mP (pVar 2))) (l1_law K))
    (sRet (mF (pOpS (callP (m_law_truth)) (psCons (pOpS (callP (m_is_name)) (psCons (pVar 2) psNil)) (psCons (pVar 5) psNil)))))))))))
noncomputable def m_law (K : PySem.W.Frag) : List Val → R0 := fnP 7 (g_law K)

-- is_room, k02
def l1_is_room : G :=
    (sSeq (sIf (mT (pNot (pTest (pOpS (callP (m_is_name)) (psCons (pOp2 oSubs (pVar 0) (pVar 1)) psNil))))) (sRet (mF (pC (.bl false)))) sNil)
    (sIf (mT (pAnd (pTest (pOp2 oGt (pVar 1) (pC (.int 0)))) (pTest (pOp2 oGe (pOp2 oSubs (pVar 0) (pOp2 oSub (pVar 1) (pC (.int 1)))) (pOp2 oSubs (pVar 0) (pVar 1)))))) (sRet (mF (pC (.bl false)))) sNil))
def g_is_room : G :=
    (sSeq (sIf (mT (pTest (pOp2 oGt (pOpS oLen (psCons (pVar 0) psNil)) (pC (.int 6))))) (sRet (mF (pC (.bl false)))) sNil)
    (sSeq (sFor [1] gN (mRng (msCons (mF (pOpS oLen (psCons (pVar 0) psNil))) msNil)) l1_is_room)
    (sRet (mF (pC (.bl true))))))
def m_is_room : List Val → R0 := fnP 2 (g_is_room)

-- law_names, k02
def l1_law_names : G :=
    (sIf (mT (pTest (pOp2 oIn (pVar 6) (pVar 3)))) (sSet 6 (mF (pOp2 oAdd (pSl (pVar 6) poNone (poSome (pOp1 oNeg (pC (.int 1))))) (pOp2 oSubs (pVar 2) (pVar 7))))) sNil)
def l2_law_names : G :=
    (sSeq (sSet 6 (mOp2 oAdd (mP (pVar 4)) (mCallIO (m_law_word) (aSlot 0 (aVal (mOp2 oAdd (mF (pC (.int 1))) (mCallIO (m_law_pull) (aSlot 0 (aVal (mF (pOp2 oSub (pC (.int 8)) (pOpS oLen (psCons (pVar 4) psNil)))) aNil)))) aNil)))))
    (sSeq (sFor [7] gN (mRng (msCons (mF (pC (.int 26))) msNil)) l1_law_names)
    (sDrop (mMeth gAppend 3 (msCons (mP (pVar 6)) msNil)))))
def g_law_names : G :=
    (sSeq (sSet 2 (mF (pC (.str "abcdefghijklmnopqrstuvwxyz"))))
    (sSeq (sSet 3 (mF (pOpS gLstN psNil)))
    (sSeq (sSet 4 (mCallIO (m_law_word) (aSlot 0 (aVal (mIx oIx (mF (pOpS gLstN (psCons (pC (.int 0)) (psCons (pC (.int 0)) (psCons (pC (.int 3)) (psCons (pC (.int 7)) psNil)))))) (mCallIO (m_law_pull) (aSlot 0 (aVal (mF (pC (.int 4))) aNil)))) aNil))))
    (sSeq (sFor [5] gN (mRng (msCons (mP (pVar 1)) msNil)) l2_law_names)
    (sRet (mMove 3))))))
def m_law_names : List Val → R1 := fnIO 8 2 (g_law_names)

-- is_row, k03
def l1_is_row : G :=
    (sIf (mT (pNot (pTest (pChain oLe oLe (pC (.int 0)) (pVar 2) (pC (.int 9)))))) (sRet (mF (pC (.bl false)))) sNil)
def g_is_row : G :=
    (sSeq (sIf (mT (pTest (pOp2 oNe (pOpS oLen (psCons (pVar 1) psNil)) (pOpS oLen (psCons (pVar 0) psNil))))) (sRet (mF (pC (.bl false)))) sNil)
    (sSeq (sFor [2] gN (mSeq (mP (pVar 1))) l1_is_row)
    (sRet (mF (pC (.bl true))))))
def m_is_row : List Val → R0 := fnP 3 (g_is_row)

-- law_answers, k03
def g_law_answers : G :=
    (sRet (mOpS oTuple (msCons (mComp [3] [3] (mRng (msCons (mP (pVar 1)) msNil)) gN (mT pYes) (mCallIO (m_law_pull) (aSlot 0 (aSlot 2 aNil)))) msNil)))
def m_law_answers : List Val → R1 := fnIO 4 3 (g_law_answers)

-- within, k04
def l1_within : G :=
    (sIf (mT (pTest (pOp2 oNotIn (pVar 2) (pVar 1)))) (sRet (mF (pC (.bl false)))) sNil)
def g_within : G :=
    (sSeq (sFor [2] gN (mSeq (mP (pVar 0))) l1_within)
    (sRet (mF (pC (.bl true)))))
def m_within : List Val → R0 := fnP 3 (g_within)

-- law_questions, k04
def g_law_questions : G :=
    (sRet (mOpS oTupleZ (msCons (mOpS oSorted (msCons (mCallIO (m_law_names) (aSlot 0 (aVal (mOp2 oAdd (mF (pC (.int 1))) (mCallIO (m_law_pull) (aSlot 0 (aVal (mF (pC (.int 6))) aNil)))) aNil))) msNil)) msNil)))
def m_law_questions : List Val → R1 := fnIO 1 1 (g_law_questions)

-- law_part, k04
def l1_law_part : G :=
    (sSet 2 (mF (pOp2 oMul (pVar 2) (pC (.int 2)))))
def g_law_part : G :=
    (sSeq (sSet 2 (mF (pC (.int 1))))
    (sSeq (sFor [3] gN (mSeq (mP (pVar 1))) l1_law_part)
    (sSeq (sSet 4 (mCallIO (m_law_pull) (aSlot 0 (aSlot 2 aNil))))
    (sRet (mF (pOpS oTupleZ (psCons (pComp [5] [5] (pRng (psCons (pOpS oLen (psCons (pVar 1) psNil)) psNil)) gN (pTest (pOp2 oEq (pOp2 oMod (pOp2 oShr (pVar 4) (pVar 5)) (pC (.int 2))) (pC (.int 1)))) (pNo (pOp2 oSubs (pVar 1) (pVar 5)))) psNil)))))))
def m_law_part : List Val → R1 := fnIO 6 2 (g_law_part)

-- law_in, k04
def g_law_in : G :=
    (sRet (mF (pOpS oAll (psCons (pComp [2] [2] (pSeq (pVar 0)) gN pYes (pOp2 oIn (pVar 2) (pVar 1))) psNil))))
def m_law_in : List Val → R0 := fnP 3 (g_law_in)

-- places, k05
def g_places : G :=
    (sSeq (sIf (mT (pNot (pTest (pOpS (callP (m_within)) (psCons (pVar 1) (psCons (pVar 0) psNil)))))) (fun ρ => .err "BadRoom" none ρ) sNil)
    (sRet (mF (pComp [2] [2] (pSeq (pVar 1)) gN pYes (pIdx (pVar 0) (pVar 2))))))
def m_places : List Val → R0 := fnP 3 (g_places)

-- picked, k05
def g_picked : G :=
    (sRet (mF (pOpS oTuple (psCons (pComp [2] [2] (pSeq (pVar 1)) gN pYes (pNo (pOp2 oSubs (pVar 0) (pVar 2)))) psNil))))
def m_picked : List Val → R0 := fnP 3 (g_picked)

-- share, k05
def g_share : G :=
    (sRet (mCall (m_picked) (msCons (mP (pVar 1)) (msCons (mCallP (m_places) (psCons (pVar 0) (psCons (pVar 2) psNil))) msNil))))
def m_share : List Val → R0 := fnP 3 (g_share)

-- law_whole, k05
def g_law_whole : G :=
    (sRet (mP (pAndV (pIsi "int" (pVar 0)) (pVal (pNot (pTest (pIsi "bool" (pVar 0))))))))
def m_law_whole : List Val → R0 := fnP 1 (g_law_whole)

-- law_tuple, k05
def g_law_tuple : G :=
    (sSeq (sIf (mT (pNot (pTest (pIsi "tuple" (pVar 0))))) (sRet (mF (pC (.bl false)))) sNil)
    (sRet (mF (pOpS oAll (psCons (pComp [1] [1] (pSeq (pVar 0)) gN pYes (pOpS (callP (m_law_whole)) (psCons (pVar 1) psNil))) psNil)))))
def m_law_tuple : List Val → R0 := fnP 2 (g_law_tuple)

-- law_row_of, k05
def g_law_row_of : G :=
    (sRet (mF (pOpS oTuple (psCons (pComp [3] [3] (pSeq (pVar 2)) gN pYes (pNo (pOp2 oSubs (pVar 1) (pIdx (pVar 0) (pVar 3))))) psNil))))
def m_law_row_of : List Val → R0 := fnP 4 (g_law_row_of)

-- law_told, k05
def g_law_told : G :=
    (sSeq (sSet 3 (mF (pC .non)))
    (sSeq (sTry (sSet 3 (mCallP (m_share) (psCons (pVar 0) (psCons (pVar 1) (psCons (pVar 2) psNil))))) [((excT [("BadRoom", true)]), (sSet 3 (mF (pC .non))))] sNil)
    (sRet (mMove 3))))
def m_law_told : List Val → R0 := fnP 4 (g_law_told)

-- is_tally, k06
def l1_is_tally : G :=
    (sSeq (sAsg ([3] ++ ([4] ++ [])) (gTn 2 (gsCons gN (gsCons gN gsNil))) (mP (pOp2 oSubs (pVar 1) (pVar 2))))
    (sSeq (sIf (mT (pOr (pNot (pTest (pOpS (callP (m_is_row)) (psCons (pVar 0) (psCons (pVar 3) psNil))))) (pTest (pOp2 oLt (pVar 4) (pC (.int 1)))))) (sRet (mF (pC (.bl false)))) sNil)
    (sIf (mT (pAnd (pTest (pOp2 oGt (pVar 2) (pC (.int 0)))) (pTest (pOp2 oGeR (pOp2 oSubs (pOp2 oSubs (pVar 1) (pOp2 oSub (pVar 2) (pC (.int 1)))) (pC (.int 0))) (pVar 3))))) (sRet (mF (pC (.bl false)))) sNil)))
def g_is_tally : G :=
    (sSeq (sFor [2] gN (mRng (msCons (mF (pOpS oLen (psCons (pVar 1) psNil))) msNil)) l1_is_tally)
    (sRet (mF (pC (.bl true)))))
def m_is_tally : List Val → R0 := fnP 5 (g_is_tally)

-- law_many, k06
def g_law_many : G :=
    (sRet (mOp2 oAdd (mF (pC (.int 1))) (mCallIO (m_law_pull) (aSlot 0 (aVal (mIx oIx (mF (pOpS gLstN (psCons (pC (.int 1)) (psCons (pC (.int 3)) (psCons (pC (.int 9)) (psCons (pOp2 oPow (pC (.int 10)) (pC (.int 12))) psNil)))))) (mCallIO (m_law_pull) (aSlot 0 (aVal (mF (pC (.int 4))) aNil)))) aNil)))))
def m_law_many : List Val → R1 := fnIO 1 1 (g_law_many)

-- law_settled, k06
def g_law_settled : G :=
    (sRet (mF (pComp [1] [1] (pSeq (pOpS oSorted (psCons (pOpS oList (psCons (pVar 0) psNil)) psNil))) gN (pTest (pOp2 oNe (pOp2 oSubs (pVar 0) (pVar 1)) (pC (.int 0)))) (pOpS gTupN (psCons (pVar 1) (psCons (pOp2 oSubs (pVar 0) (pVar 1)) psNil))))))
def m_law_settled : List Val → R0 := fnP 2 (g_law_settled)

-- law_drawn, k06
def l1_law_drawn : G :=
    (sPut 2 (mCallIO (m_law_answers) (aSlot 0 (aVal (mF (pOpS oLen (psCons (pVar 1) psNil))) (aSlot 3 aNil)))) (mCallIO (m_law_many) (aSlot 0 aNil)))
def g_law_drawn : G :=
    (sSeq (sSet 2 (mF pDNewT))
    (sSeq (sSet 3 (mIx oIx (mF (pOpS gLstN (psCons (pC (.int 2)) (psCons (pC (.int 2)) (psCons (pC (.int 3)) (psCons (pC (.int 10)) psNil)))))) (mCallIO (m_law_pull) (aSlot 0 (aVal (mF (pC (.int 4))) aNil)))))
    (sSeq (sFor [4] gN (mRng (msCons (mIx oIx (mF (pOpS gLstN (psCons (pC (.int 3)) (psCons (pC (.int 2)) (psCons (pC (.int 1)) (psCons (pC (.int 0)) (psCons (pC (.int 5)) (psCons (pC (.int 8)) (psCons (pC (.int 12)) (psCons (pC (.int 4)) (psCons (pC (.int 2)) (psCons (pC (.int 40)) psNil)))))))))))) (mCallIO (m_law_pull) (aSlot 0 (aVal (mF (pC (.int 10))) aNil)))) msNil)) l1_law_drawn)
    (sRet (mF (pOpS (callP (m_law_settled)) (psCons (pVar 2) psNil)))))))
def m_law_drawn : List Val → R1 := fnIO 5 2 (g_law_drawn)

-- made, k07
def l1_made : G :=
    (sSeq (sIf (mT (pNot (pTest (pOpS (callP (m_is_row)) (psCons (pVar 0) (psCons (pVar 3) psNil)))))) (fun ρ => .err "BadRow" none ρ) sNil)
    (sSeq (sIf (mT (pTest (pOp2 oLt (pVar 4) (pC (.int 0))))) (fun ρ => .err "BadCount" none ρ) sNil)
    (sPut 2 (mP (pVar 3)) (mF (pOp2 oAdd (pGet2 (pVar 2) (pVar 3) (pC (.int 0))) (pVar 4))))))
def g_made : G :=
    (sSeq (sSet 2 (mF pDNewT))
    (sSeq (sFor ([3] ++ ([4] ++ [])) (gTn 2 (gsCons gN (gsCons gN gsNil))) (mSeq (mP (pVar 1))) l1_made)
    (sRet (mF (pOpS (callP (m_law_settled)) (psCons (pVar 2) psNil))))))
def m_made : List Val → R0 := fnP 5 (g_made)

-- law_same, k07
def l1_law_same : G :=
    (sSeq (sIf (mT (pOr (pNot (pTest (pIsi "tuple" (pOp2 oSubs (pVar 0) (pVar 2))))) (pTest (pOp2 oNe (pOpS oLen (psCons (pOp2 oSubs (pVar 0) (pVar 2)) psNil)) (pC (.int 2)))))) (sRet (mF (pC (.bl false)))) sNil)
    (sIf (mT (pOr (pNot (pTest (pOpS (callP (m_law_tuple)) (psCons (pOp2 oSubs (pOp2 oSubs (pVar 0) (pVar 2)) (pC (.int 0))) psNil)))) (pOr (pNot (pTest (pOpS (callP (m_law_whole)) (psCons (pOp2 oSubs (pOp2 oSubs (pVar 0) (pVar 2)) (pC (.int 1))) psNil)))) (pTest (pOp2 oNe (pOp2 oSubs (pVar 0) (pVar 2)) (pOp2 oSubs (pVar 1) (pVar 2))))))) (sRet (mF (pC (.bl false)))) sNil))
def g_law_same : G :=
    (sSeq (sIf (mT (pOr (pNot (pTest (pIsi "list" (pVar 0)))) (pTest (pOp2 oNe (pOpS oLen (psCons (pVar 0) psNil)) (pOpS oLen (psCons (pVar 1) psNil)))))) (sRet (mF (pC (.bl false)))) sNil)
    (sSeq (sFor [2] gN (mRng (msCons (mF (pOpS oLen (psCons (pVar 1) psNil))) msNil)) l1_law_same)
    (sRet (mF (pC (.bl true))))))
def m_law_same : List Val → R0 := fnP 3 (g_law_same)

-- counted, k08
def l1_counted : G :=
    (sPut 1 (mP (pVar 2)) (mP (pVar 3)))
def g_counted : G :=
    (sSeq (sSet 1 (mF pDNewT))
    (sSeq (sFor ([2] ++ ([3] ++ [])) (gTn 2 (gsCons gN (gsCons gN gsNil))) (mSeq (mP (pVar 0))) l1_counted)
    (sRet (mMove 1))))
def m_counted : List Val → R0 := fnP 4 (g_counted)

-- plus, k08
def l1_plus : G :=
    (sPut 2 (mP (pVar 3)) (mF (pOp2 oAdd (pGet2 (pVar 2) (pVar 3) (pC (.int 0))) (pVar 4))))
def g_plus : G :=
    (sSeq (sSet 2 (mF (pOpS (callP (m_counted)) (psCons (pVar 0) psNil))))
    (sSeq (sFor ([3] ++ ([4] ++ [])) (gTn 2 (gsCons gN (gsCons gN gsNil))) (mSeq (mP (pVar 1))) l1_plus)
    (sRet (mF (pOpS (callP (m_law_settled)) (psCons (pVar 2) psNil))))))
def m_plus : List Val → R0 := fnP 5 (g_plus)

-- less, k08
def l1_less : G :=
    (sSeq (sIf (mT (pTest (pOp2 oLt (pGet2 (pVar 2) (pVar 3) (pC (.int 0))) (pVar 4)))) (sRaiseI "TooFew" "row" (pVar 3)) sNil)
    (sPut 2 (mP (pVar 3)) (mF (pOp2 oSub (pOp2 oSubs (pVar 2) (pVar 3)) (pVar 4)))))
def g_less : G :=
    (sSeq (sSet 2 (mF (pOpS (callP (m_counted)) (psCons (pVar 0) psNil))))
    (sSeq (sFor ([3] ++ ([4] ++ [])) (gTn 2 (gsCons gN (gsCons gN gsNil))) (mSeq (mP (pVar 1))) l1_less)
    (sRet (mF (pOpS (callP (m_law_settled)) (psCons (pVar 2) psNil))))))
def m_less : List Val → R0 := fnP 5 (g_less)

-- total, k08
def g_total : G :=
    (sRet (mF (pOpS oSum (psCons (pComp [1, 2] ([1] ++ ([2] ++ [])) (pSeq (pVar 0)) (gTn 2 (gsCons gN (gsCons gN gsNil))) pYes (pNo (pVar 2))) psNil))))
def m_total : List Val → R0 := fnP 3 (g_total)

-- law_minus, k08
def g_law_minus : G :=
    (sSeq (sTryAs (sSet 2 (mCallP (m_less) (psCons (pVar 0) (psCons (pVar 1) psNil)))) "TooFew" (excT [("TooFew", true)]) 3 2 "few" "row")
    (sRet (mMove 2)))
def m_law_minus : List Val → R0 := fnP 4 (g_law_minus)

-- law_10, k08
noncomputable def l1_law_10 (K : PySem.W.Frag) : G :=
    (sPut 5 (mP (pVar 6)) (mF (pOp2 oAdd (pGet2 (pVar 5) (pVar 6) (pC (.int 0))) (pVar 7))))
noncomputable def l2_law_10 (K : PySem.W.Frag) : G :=
    (sAugD 11 (pVar 6) ipSub (pVar 7))
noncomputable def g_law_10 (K : PySem.W.Frag) : G :=
    (sSeq (sSet 1 (mF (pOpS (callP (m_law_bag K)) (psCons (pVar 0) psNil))))
    (sSeq (sSet 2 (mOpS oTupleZ (msCons (mOpS oSorted (msCons (mCallIO (m_law_names) (aSlot 1 (aVal (mCallIO (m_law_pull) (aSlot 1 (aVal (mF (pC (.int 7))) aNil))) aNil))) msNil)) msNil)))
    (sSeq (sSet 3 (mFz (mCallIO (m_law_drawn) (aSlot 1 (aSlot 2 aNil)))))
    (sSeq (sSet 4 (mFz (mCallIO (m_law_drawn) (aSlot 1 (aSlot 2 aNil)))))
    (sSeq (sIf (mTest (mOp2 oEq (mCallIO (m_law_pull) (aSlot 1 (aVal (mF (pC (.int 2))) aNil))) (mF (pC (.int 1))))) (sSet 4 (mComp [6, 7] ([6] ++ ([7] ++ [])) (mSeq (mP (pVar 3))) (gTn 2 (gsCons gN (gsCons gN gsNil))) (mTest (mOp2 oGt (mCallIO (m_law_pull) (aSlot 1 (aVal (mF (pC (.int 3))) aNil))) (mF (pC (.int 0))))) (mOpS gTupM (msCons (mP (pVar 6)) (msCons (mOp2 oAdd (mF (pC (.int 1))) (mCallIO (m_law_pull) (aSlot 1 (aSlot 7 aNil)))) msNil))))) sNil)
    (sSeq (sSet 5 (mF (pOpS oDict (psCons (pVar 3) psNil))))
    (sSeq (sFor ([6] ++ ([7] ++ [])) (gTn 2 (gsCons gN (gsCons gN gsNil))) (mSeq (mFrz 4)) (l1_law_10 K))
    (sSeq (sSet 8 (mOpS gLstM (msCons (mF (pOpS oList (psCons (pVar 3) psNil))) (msCons (mF (pOpS oList (psCons (pVar 4) psNil))) msNil))))
    (sSeq (sSet 9 (mF (pOpS (callP (m_plus)) (psCons (pOp2 oSubs (pVar 8) (pC (.int 0))) (psCons (pOp2 oSubs (pVar 8) (pC (.int 1))) psNil)))))
    (sSeq (sIf (mT (pOr (pNot (pTest (pOpS (callP (m_law_same)) (psCons (pVar 9) (psCons (pOpS (callP (m_law_settled)) (psCons (pVar 5) psNil)) psNil))))) (pTest (pOp2 oNe (pVar 8) (pOpS gLstN (psCons (pVar 3) (psCons (pVar 4) psNil))))))) (sRet (mF (pC (.bl false)))) sNil)
    (sSeq (sIf (mOr (mNot (mTest (mCallPB (m_law_same) (aVal (mCallP (m_less) (psCons (pVar 9) (psCons (pOp2 oSubs (pVar 8) (pC (.int 1))) psNil))) (aSlot 3 aNil))))) (mNot (mTest (mCall (m_law_same) (msCons (mCallP (m_less) (psCons (pVar 9) (psCons (pOp2 oSubs (pVar 8) (pC (.int 0))) psNil))) (msCons (mFrz 4) msNil)))))) (sRet (mF (pC (.bl false)))) sNil)
    (sSeq (sSet 10 (mF (pOpS gLstN (psCons (pOpS oSum (psCons (pComp [6, 7] ([6] ++ ([7] ++ [])) (pSeq (pVar 3)) (gTn 2 (gsCons gN (gsCons gN gsNil))) pYes (pNo (pVar 7))) psNil)) (psCons (pOpS oSum (psCons (pComp [6, 7] ([6] ++ ([7] ++ [])) (pSeq (pVar 4)) (gTn 2 (gsCons gN (gsCons gN gsNil))) pYes (pNo (pVar 7))) psNil)) psNil)))))
    (sSeq (sIf (mT (pOr (pNot (pTest (pOpS (callP (m_law_whole)) (psCons (pOpS (callP (m_total)) (psCons (pVar 9) psNil)) psNil)))) (pOr (pTest (pOp2 oNe (pOpS (callP (m_total)) (psCons (pVar 9) psNil)) (pOp2 oAdd (pOp2 oSubs (pVar 10) (pC (.int 0))) (pOp2 oSubs (pVar 10) (pC (.int 1)))))) (pTest (pOp2 oNe (pOpS (callP (m_total)) (psCons (pVar 3) psNil)) (pOp2 oSubs (pVar 10) (pC (.int 0)))))))) (sRet (mF (pC (.bl false)))) sNil)
    (sSeq (sDrop (mMeth gAppend 9 (msCons (mF (pC (.int 0))) msNil)))
    (sSeq (sSet 11 (mF (pOpS oDict (psCons (pVar 3) psNil))))
    (sSeq (sSet 12 (mF (pComp [6, 7] ([6] ++ ([7] ++ [])) (pSeq (pVar 4)) (gTn 2 (gsCons gN (gsCons gN gsNil))) (pTest (pOp2 oLt (pGet2 (pVar 11) (pVar 6) (pC (.int 0))) (pVar 7))) (pNo (pVar 6)))))
    (sSeq (sSet 13 (mCallP (m_law_minus) (psCons (pOp2 oSubs (pVar 8) (pC (.int 0))) (psCons (pOp2 oSubs (pVar 8) (pC (.int 1))) psNil))))
    (sSeq (sIf (mT (pTest (pOp2 oNe (pVar 12) (pOpS gLstN psNil)))) (sSeq (sIf (mT (pOr (pNot (pTest (pIsi "tuple" (pVar 13)))) (pNot (pTest (pOpS (callP (m_law_tuple)) (psCons (pOp2 oSubs (pVar 13) (pC (.int 1))) psNil)))))) (sRet (mF (pC (.bl false)))) sNil)
    (sRet (mP (pAndV (pOp2 oEq (pVar 13) (pOpS gTupN (psCons (pC (.str "few")) (psCons (pOp2 oSubs (pVar 12) (pC (.int 0))) psNil)))) (pOp2 oEq (pVar 8) (pOpS gLstN (psCons (pVar 3) (psCons (pVar 4) psNil)))))))) sNil)
    (sSeq (sFor ([6] ++ ([7] ++ [])) (gTn 2 (gsCons gN (gsCons gN gsNil))) (mSeq (mFrz 4)) (l2_law_10 K))
    (sSeq (sIf (mT (pNot (pTest (pOpS (callP (m_law_same)) (psCons (pVar 13) (psCons (pOpS (callP (m_law_settled)) (psCons (pVar 11) psNil)) psNil)))))) (sRet (mF (pC (.bl false)))) sNil)
    (sSeq (sDrop (mMeth gAppend 13 (msCons (mF (pC (.int 0))) msNil)))
    (sRet (mF (pOp2 oEq (pVar 8) (pOpS gLstN (psCons (pVar 3) (psCons (pVar 4) psNil)))))))))))))))))))))))))))
noncomputable def m_law_10 (K : PySem.W.Frag) : List Val → R0 := fnP 14 (g_law_10 K)

-- shared, k09
def l1_shared : G :=
    (sSeq (sSet 7 (mF (pOpS (callP (m_picked)) (psCons (pVar 5) (psCons (pVar 3) psNil)))))
    (sPut 4 (mP (pVar 7)) (mF (pOp2 oAdd (pGet2 (pVar 4) (pVar 7) (pC (.int 0))) (pVar 6)))))
def g_shared : G :=
    (sSeq (sSet 3 (mCallP (m_places) (psCons (pVar 0) (psCons (pVar 2) psNil))))
    (sSeq (sSet 4 (mF pDNewT))
    (sSeq (sFor ([5] ++ ([6] ++ [])) (gTn 2 (gsCons gN (gsCons gN gsNil))) (mSeq (mP (pVar 1))) l1_shared)
    (sRet (mF (pOpS (callP (m_law_settled)) (psCons (pVar 4) psNil)))))))
def m_shared : List Val → R0 := fnP 8 (g_shared)

-- law_portion, k09
def l1_law_portion : G :=
    (sSeq (sSet 6 (mF (pOpS (callP (m_law_row_of)) (psCons (pVar 0) (psCons (pVar 4) (psCons (pVar 2) psNil))))))
    (sPut 3 (mP (pVar 6)) (mF (pOp2 oAdd (pGet2 (pVar 3) (pVar 6) (pC (.int 0))) (pVar 5)))))
def g_law_portion : G :=
    (sSeq (sSet 3 (mF pDNewT))
    (sSeq (sFor ([4] ++ ([5] ++ [])) (gTn 2 (gsCons gN (gsCons gN gsNil))) (mSeq (mP (pVar 1))) l1_law_portion)
    (sRet (mF (pOpS (callP (m_law_settled)) (psCons (pVar 3) psNil))))))
def m_law_portion : List Val → R0 := fnP 7 (g_law_portion)

-- law_told_3, k09
def g_law_told_3 : G :=
    (sSeq (sTry (sSet 3 (mCallP (m_shared) (psCons (pVar 0) (psCons (pVar 1) (psCons (pVar 2) psNil))))) [((excT [("BadRoom", true)]), (sSet 3 (mF (pC .non))))] sNil)
    (sRet (mMove 3)))
def m_law_told_3 : List Val → R0 := fnP 4 (g_law_told_3)

end RT

namespace RT
open L2 PyProof.Rows PySem.Spec PySem L2.DL

/-! ### drawing -/
def bagV (nums : List Int) (at_ left salt : Int) : Val := .lst true [.lst true (nums.map .int), .int at_, .int left, .int salt]
theorem atI_lt {α : Type} {xs : List α} {i : Int} (h0 : 0 ≤ i) (h : i < xs.length) : ∃ x, x ∈ xs ∧ atI xs i = some x := by
  obtain ⟨j, rfl⟩ := Int.eq_ofNat_of_zero_le h0
  have hj : j < xs.length := by omega
  exact ⟨xs[j], List.getElem_mem _, atI_nat (List.getElem?_eq_getElem hj)⟩
theorem atI0 {α : Type} {a : α} {xs : List α} : atI (a :: xs) 0 = some a := atI_nat (j := 0) rfl
theorem atI1 {α : Type} {a b : α} {xs : List α} : atI (a :: b :: xs) 1 = some b := atI_nat (j := 1) rfl
theorem atI2 {α : Type} {a b c : α} {xs : List α} : atI (a :: b :: c :: xs) 2 = some c := atI_nat (j := 2) rfl
theorem atI3 {α : Type} {a b c d : α} {xs : List α} : atI (a :: b :: c :: d :: xs) 3 = some d := atI_nat (j := 3) rfl
theorem noOwns_ints (nums : List Int) : noOwns (nums.map Val.int) = true := noOwns_of fun w h => by
  obtain ⟨x, _, rfl⟩ := List.mem_map.mp h; rfl
theorem cMul_r {i j : Int} (h1 : -(2 ^ 64) < j) (h2 : j < 2 ^ 64) : cMul i j = true := by simp only [cMul, ltA_of (i := j) (n := 2 ^ 64) (by omega), Bool.or_true]
theorem oMul_lit {i j : Int} (h1 : -18446744073709551616 < j) (h2 : j < 18446744073709551616) : oMul (.int i) (.int j) = some (.int (i * j)) := oMul_int (cMul_r (by omega) (by omega))
theorem oMul_emod {i j m : Int} (h1 : 0 < m) (h2 : m < 18446744073709551616) : oMul (.int i) (.int (j % m)) = some (.int (i * (j % m))) := by
  have := Int.emod_nonneg j (Int.ne_of_gt h1)
  have := Int.emod_lt_of_pos j h1
  exact oMul_lit (by omega) (by omega)
theorem oPow18 : oPow (.int 10) (.int 18) = some (.int 1000000000000000000) := rfl
theorem ixN1 {α : Type} {a b : α} {xs : List α} : ixN (a :: b :: xs).length 1 = some 1 := by
  have : (1 : Int) < ((a :: b :: xs).length : Int) := by simp only [List.length_cons]; omega
  unfold ixN; rw [if_pos (by decide), if_pos this]; rfl
theorem pull_big {nums : List Int} {at_ left salt many : Int} (h0 : 0 ≤ at_) (hm : 0 < many) (hm2 : many < 18446744073709551616) :
    ∃ at' left' r, 0 ≤ at' ∧ 0 ≤ r ∧ r < many ∧ m_law_pull [bagV nums at_ left salt, .int many] = .ok (.int r) [some (bagV nums at' left' salt), some (.int many)] := by
  unfold m_law_pull fnIO g_law_pull bagV
  have p4 : ∀ a x w : Val, putW (.lst true [.lst true (nums.map Val.int), a, x, .int salt]) (.int 2) w = some (.lst true [.lst true (nums.map Val.int), a, w, .int salt]) := fun _ _ _ => rfl
  have m0 : ∀ x : Int, 0 ≤ x % many ∧ x % many < many := fun x => ⟨Int.emod_nonneg _ (Int.ne_of_gt hm), Int.emod_lt_of_pos _ hm⟩
  have ix1 : ixN 4 1 = some 1 := rfl
  have om := fun x => oMod_int (i := x) hm
  have od := fun x => oDiv_int (i := x) hm hm2
  have e2 : at_ + 1 - 1 = at_ := by omega
  by_cases hl : left ≤ 1
  · by_cases hb : at_ + 1 ≤ nums.length
    · obtain ⟨x, hx, ex⟩ := atI_lt (xs := nums.map Val.int) (i := at_) h0 (by rw [List.length_map]; omega)
      obtain ⟨y, _, rfl⟩ := List.mem_map.mp hx
      have hb2 : ¬ (nums.length : Int) < at_ + 1 := by omega
      by_cases hs : y < 1000000000000000000
      · simp only [sSeq_ap, sNil_ap, sIf_ap, sSet_ap, sRet_ap, sRetN_ap, sDrop_ap, sAsg_ap, sFor_ap, sAug_ap, sAugL_ap, sPut_ap, mT_ap, mTest_ap, mF_ap, mP_ap, mMove_ap, mFrz_ap, mFz_ap, sRaiseI_ap, mOp2_ap, mOp1_ap, mOpS_ap, mIx_ap, mIxL_ap, mIte_ap, mNot_ap, mAnd_ap, mOr_ap, mAndV_ap, mOrV_ap, msNil_ap, msCons_ap, psNil_ap, psCons_ap, pVar_ap, pC_ap, pOp1_ap, pOp2_ap, pOpS_ap, pTest_ap, pNot_ap, pAnd_ap, pOr_ap, pVal_ap, pAndV_ap, pOrV_ap, pIte_ap, pChain_ap, pNo_ap, poNone_ap, poSome_ap, pSl_ap, pSeq_ap, mSeq_ap, pRng_ap, mRng_ap, pComp_ap, mComp_ap, pYes_ap, pMet_ap, mMet_ap, mMeth_ap, pIsi_ap, pGet2_ap, aNil_ap, aSlot_ap, aVal_ap, mCallIO_ap, mCall_ap, mCallP_ap, mCallPB_ap, oIsN_ap, oNotN_ap, oAdd_int, oSub_int, ipAdd_int, ipSub_int, oLt_int, oLe_int, oGt_int, oGe_int, oLt_str, oLe_str, oGt_str, oGe_str, oEq_int, oNe_int, oEq_bl, oNeg_int, oSubs_lst, oSubs_tup, oIx_lst, oIx_tup, oLen_lst, oLen_tup, oIn_str, oNotIn_str, seqOf_str, seqOf_tup, seqOf_lst, startS, RS.seq_nx, RS.seq_ret, RS.seq_brk, RS.seq_ct, RS.seq_err, RS.seq_bad, L2.DL.R.bind_ok, L2.DL.R.bind_err, L2.DL.R.bind_bad, rS_ok, rS_err, rS_bad, Option.bind_some, Option.bind_none, Option.map_some, Option.map_none, Option.join_some, gN, noOwn, noOwns, noObj, noObjs, noSh, noShs, frz, frzs, List.map_cons, List.map_nil, List.getElem?_cons_zero, List.getElem?_cons_succ, List.set_cons_zero, List.set_cons_succ, List.length_cons, List.length_nil, List.cons_append, List.nil_append, List.replicate, setS_nil, setS_cons, gsNil, gsCons, gTn, Bool.and_true, Bool.true_and, Bool.and_false, Bool.false_and, Bool.or_true, Bool.true_or, Bool.or_false, Bool.false_or, Bool.not_true, Bool.not_false, Bool.and_self, if_true, if_false, Bool.false_eq_true, reduceIte, decide_true, decide_false, callIO, callPB, gatherA, backA, List.take_succ_cons, List.take_zero, atI0, atI1, atI2, atI3, Nat.reduceAdd, Nat.reduceSub, Int.reduceLT, Int.reduceLE, Int.reduceNeg, Int.reduceAdd, Int.reduceSub, Int.reduceMul, Nat.reduceLT, Nat.reduceLeDiff, Int.reduceEq, Int.reduceBEq, hl, hb, ix1, List.length_map, e2, ex, hb2, oPow18, hs, oMul_lit, oMul_emod, oMod_int, oDiv_int, om, od]
        exact ⟨_, _, _, by omega, (m0 _).1, (m0 _).2, rfl⟩
      · simp only [sSeq_ap, sNil_ap, sIf_ap, sSet_ap, sRet_ap, sRetN_ap, sDrop_ap, sAsg_ap, sFor_ap, sAug_ap, sAugL_ap, sPut_ap, mT_ap, mTest_ap, mF_ap, mP_ap, mMove_ap, mFrz_ap, mFz_ap, sRaiseI_ap, mOp2_ap, mOp1_ap, mOpS_ap, mIx_ap, mIxL_ap, mIte_ap, mNot_ap, mAnd_ap, mOr_ap, mAndV_ap, mOrV_ap, msNil_ap, msCons_ap, psNil_ap, psCons_ap, pVar_ap, pC_ap, pOp1_ap, pOp2_ap, pOpS_ap, pTest_ap, pNot_ap, pAnd_ap, pOr_ap, pVal_ap, pAndV_ap, pOrV_ap, pIte_ap, pChain_ap, pNo_ap, poNone_ap, poSome_ap, pSl_ap, pSeq_ap, mSeq_ap, pRng_ap, mRng_ap, pComp_ap, mComp_ap, pYes_ap, pMet_ap, mMet_ap, mMeth_ap, pIsi_ap, pGet2_ap, aNil_ap, aSlot_ap, aVal_ap, mCallIO_ap, mCall_ap, mCallP_ap, mCallPB_ap, oIsN_ap, oNotN_ap, oAdd_int, oSub_int, ipAdd_int, ipSub_int, oLt_int, oLe_int, oGt_int, oGe_int, oLt_str, oLe_str, oGt_str, oGe_str, oEq_int, oNe_int, oEq_bl, oNeg_int, oSubs_lst, oSubs_tup, oIx_lst, oIx_tup, oLen_lst, oLen_tup, oIn_str, oNotIn_str, seqOf_str, seqOf_tup, seqOf_lst, startS, RS.seq_nx, RS.seq_ret, RS.seq_brk, RS.seq_ct, RS.seq_err, RS.seq_bad, L2.DL.R.bind_ok, L2.DL.R.bind_err, L2.DL.R.bind_bad, rS_ok, rS_err, rS_bad, Option.bind_some, Option.bind_none, Option.map_some, Option.map_none, Option.join_some, gN, noOwn, noOwns, noObj, noObjs, noSh, noShs, frz, frzs, List.map_cons, List.map_nil, List.getElem?_cons_zero, List.getElem?_cons_succ, List.set_cons_zero, List.set_cons_succ, List.length_cons, List.length_nil, List.cons_append, List.nil_append, List.replicate, setS_nil, setS_cons, gsNil, gsCons, gTn, Bool.and_true, Bool.true_and, Bool.and_false, Bool.false_and, Bool.or_true, Bool.true_or, Bool.or_false, Bool.false_or, Bool.not_true, Bool.not_false, Bool.and_self, if_true, if_false, Bool.false_eq_true, reduceIte, decide_true, decide_false, callIO, callPB, gatherA, backA, List.take_succ_cons, List.take_zero, atI0, atI1, atI2, atI3, Nat.reduceAdd, Nat.reduceSub, Int.reduceLT, Int.reduceLE, Int.reduceNeg, Int.reduceAdd, Int.reduceSub, Int.reduceMul, Nat.reduceLT, Nat.reduceLeDiff, Int.reduceEq, Int.reduceBEq, hl, hb, ix1, List.length_map, e2, ex, hb2, oPow18, hs, oMul_lit, oMul_emod, oMod_int, oDiv_int, om, od, p4]
        exact ⟨_, _, _, by omega, (m0 _).1, (m0 _).2, rfl⟩
    · have hb2 : (nums.length : Int) < at_ + 1 := by omega
      simp only [sSeq_ap, sNil_ap, sIf_ap, sSet_ap, sRet_ap, sRetN_ap, sDrop_ap, sAsg_ap, sFor_ap, sAug_ap, sAugL_ap, sPut_ap, mT_ap, mTest_ap, mF_ap, mP_ap, mMove_ap, mFrz_ap, mFz_ap, sRaiseI_ap, mOp2_ap, mOp1_ap, mOpS_ap, mIx_ap, mIxL_ap, mIte_ap, mNot_ap, mAnd_ap, mOr_ap, mAndV_ap, mOrV_ap, msNil_ap, msCons_ap, psNil_ap, psCons_ap, pVar_ap, pC_ap, pOp1_ap, pOp2_ap, pOpS_ap, pTest_ap, pNot_ap, pAnd_ap, pOr_ap, pVal_ap, pAndV_ap, pOrV_ap, pIte_ap, pChain_ap, pNo_ap, poNone_ap, poSome_ap, pSl_ap, pSeq_ap, mSeq_ap, pRng_ap, mRng_ap, pComp_ap, mComp_ap, pYes_ap, pMet_ap, mMet_ap, mMeth_ap, pIsi_ap, pGet2_ap, aNil_ap, aSlot_ap, aVal_ap, mCallIO_ap, mCall_ap, mCallP_ap, mCallPB_ap, oIsN_ap, oNotN_ap, oAdd_int, oSub_int, ipAdd_int, ipSub_int, oLt_int, oLe_int, oGt_int, oGe_int, oLt_str, oLe_str, oGt_str, oGe_str, oEq_int, oNe_int, oEq_bl, oNeg_int, oSubs_lst, oSubs_tup, oIx_lst, oIx_tup, oLen_lst, oLen_tup, oIn_str, oNotIn_str, seqOf_str, seqOf_tup, seqOf_lst, startS, RS.seq_nx, RS.seq_ret, RS.seq_brk, RS.seq_ct, RS.seq_err, RS.seq_bad, L2.DL.R.bind_ok, L2.DL.R.bind_err, L2.DL.R.bind_bad, rS_ok, rS_err, rS_bad, Option.bind_some, Option.bind_none, Option.map_some, Option.map_none, Option.join_some, gN, noOwn, noOwns, noObj, noObjs, noSh, noShs, frz, frzs, List.map_cons, List.map_nil, List.getElem?_cons_zero, List.getElem?_cons_succ, List.set_cons_zero, List.set_cons_succ, List.length_cons, List.length_nil, List.cons_append, List.nil_append, List.replicate, setS_nil, setS_cons, gsNil, gsCons, gTn, Bool.and_true, Bool.true_and, Bool.and_false, Bool.false_and, Bool.or_true, Bool.true_or, Bool.or_false, Bool.false_or, Bool.not_true, Bool.not_false, Bool.and_self, if_true, if_false, Bool.false_eq_true, reduceIte, decide_true, decide_false, callIO, callPB, gatherA, backA, List.take_succ_cons, List.take_zero, atI0, atI1, atI2, atI3, Nat.reduceAdd, Nat.reduceSub, Int.reduceLT, Int.reduceLE, Int.reduceNeg, Int.reduceAdd, Int.reduceSub, Int.reduceMul, Nat.reduceLT, Nat.reduceLeDiff, Int.reduceEq, Int.reduceBEq, hl, hb, ix1, List.length_map, e2, hb2, oPow18, oMul_lit, oMul_emod, oMod_int, oDiv_int, om, od]
      exact ⟨_, _, _, by omega, (m0 _).1, (m0 _).2, rfl⟩
  · simp only [sSeq_ap, sNil_ap, sIf_ap, sSet_ap, sRet_ap, sRetN_ap, sDrop_ap, sAsg_ap, sFor_ap, sAug_ap, sAugL_ap, sPut_ap, mT_ap, mTest_ap, mF_ap, mP_ap, mMove_ap, mFrz_ap, mFz_ap, sRaiseI_ap, mOp2_ap, mOp1_ap, mOpS_ap, mIx_ap, mIxL_ap, mIte_ap, mNot_ap, mAnd_ap, mOr_ap, mAndV_ap, mOrV_ap, msNil_ap, msCons_ap, psNil_ap, psCons_ap, pVar_ap, pC_ap, pOp1_ap, pOp2_ap, pOpS_ap, pTest_ap, pNot_ap, pAnd_ap, pOr_ap, pVal_ap, pAndV_ap, pOrV_ap, pIte_ap, pChain_ap, pNo_ap, poNone_ap, poSome_ap, pSl_ap, pSeq_ap, mSeq_ap, pRng_ap, mRng_ap, pComp_ap, mComp_ap, pYes_ap, pMet_ap, mMet_ap, mMeth_ap, pIsi_ap, pGet2_ap, aNil_ap, aSlot_ap, aVal_ap, mCallIO_ap, mCall_ap, mCallP_ap, mCallPB_ap, oIsN_ap, oNotN_ap, oAdd_int, oSub_int, ipAdd_int, ipSub_int, oLt_int, oLe_int, oGt_int, oGe_int, oLt_str, oLe_str, oGt_str, oGe_str, oEq_int, oNe_int, oEq_bl, oNeg_int, oSubs_lst, oSubs_tup, oIx_lst, oIx_tup, oLen_lst, oLen_tup, oIn_str, oNotIn_str, seqOf_str, seqOf_tup, seqOf_lst, startS, RS.seq_nx, RS.seq_ret, RS.seq_brk, RS.seq_ct, RS.seq_err, RS.seq_bad, L2.DL.R.bind_ok, L2.DL.R.bind_err, L2.DL.R.bind_bad, rS_ok, rS_err, rS_bad, Option.bind_some, Option.bind_none, Option.map_some, Option.map_none, Option.join_some, gN, noOwn, noOwns, noObj, noObjs, noSh, noShs, frz, frzs, List.map_cons, List.map_nil, List.getElem?_cons_zero, List.getElem?_cons_succ, List.set_cons_zero, List.set_cons_succ, List.length_cons, List.length_nil, List.cons_append, List.nil_append, List.replicate, setS_nil, setS_cons, gsNil, gsCons, gTn, Bool.and_true, Bool.true_and, Bool.and_false, Bool.false_and, Bool.or_true, Bool.true_or, Bool.or_false, Bool.false_or, Bool.not_true, Bool.not_false, Bool.and_self, if_true, if_false, Bool.false_eq_true, reduceIte, decide_true, decide_false, callIO, callPB, gatherA, backA, List.take_succ_cons, List.take_zero, atI0, atI1, atI2, atI3, Nat.reduceAdd, Nat.reduceSub, Int.reduceLT, Int.reduceLE, Int.reduceNeg, Int.reduceAdd, Int.reduceSub, Int.reduceMul, Nat.reduceLT, Nat.reduceLeDiff, Int.reduceEq, Int.reduceBEq, hl, om, od, p4]
    exact ⟨_, _, _, h0, (m0 _).1, (m0 _).2, rfl⟩
theorem pull_spec {nums : List Int} {at_ left salt many : Int} (h0 : 0 ≤ at_) (hm : 0 < many) (hm2 : many < 1073741824) :
    ∃ at' left' r, 0 ≤ at' ∧ 0 ≤ r ∧ r < many ∧ m_law_pull [bagV nums at_ left salt, .int many] = .ok (.int r) [some (bagV nums at' left' salt), some (.int many)] := pull_big h0 hm (by omega)
end RT

namespace RT
open L2 PyProof.Rows PySem.Spec PySem L2.DL
theorem bag_loop (K : PySem.W.Frag) (s : Val) : ∀ (ns : List Int) (salt : Int) (x : Option Val), ∃ salt' x', forL [2] gN (l1_law_bag K) (ns.map .int) [some s, some (.int salt), x] = .nx [some s, some (.int salt'), x']
  | [], salt, x => ⟨salt, x, rfl⟩
  | n :: ns, salt, x => by
    obtain ⟨a, b, e⟩ := bag_loop K s ns ((salt * 1009 + n) % 1000003) (some (.int n))
    refine ⟨a, b, ?_⟩
    rw [List.map_cons, forL]
    simp only [sSeq_ap, sNil_ap, sIf_ap, sSet_ap, sRet_ap, sRetN_ap, sDrop_ap, sAsg_ap, sFor_ap, sAug_ap, sAugL_ap, sPut_ap, mT_ap, mTest_ap, mF_ap, mP_ap, mMove_ap, mFrz_ap, mFz_ap, sRaiseI_ap, mOp2_ap, mOp1_ap, mOpS_ap, mIx_ap, mIxL_ap, mIte_ap, mNot_ap, mAnd_ap, mOr_ap, mAndV_ap, mOrV_ap, msNil_ap, msCons_ap, psNil_ap, psCons_ap, pVar_ap, pC_ap, pOp1_ap, pOp2_ap, pOpS_ap, pTest_ap, pNot_ap, pAnd_ap, pOr_ap, pVal_ap, pAndV_ap, pOrV_ap, pIte_ap, pChain_ap, pNo_ap, poNone_ap, poSome_ap, pSl_ap, pSeq_ap, mSeq_ap, pRng_ap, mRng_ap, pComp_ap, mComp_ap, pYes_ap, pMet_ap, mMet_ap, mMeth_ap, pIsi_ap, pGet2_ap, aNil_ap, aSlot_ap, aVal_ap, mCallIO_ap, mCall_ap, mCallP_ap, mCallPB_ap, oIsN_ap, oNotN_ap, oAdd_int, oSub_int, ipAdd_int, ipSub_int, oLt_int, oLe_int, oGt_int, oGe_int, oLt_str, oLe_str, oGt_str, oGe_str, oEq_int, oNe_int, oEq_bl, oNeg_int, oSubs_lst, oSubs_tup, oIx_lst, oIx_tup, oLen_lst, oLen_tup, oIn_str, oNotIn_str, seqOf_str, seqOf_tup, seqOf_lst, startS, RS.seq_nx, RS.seq_ret, RS.seq_brk, RS.seq_ct, RS.seq_err, RS.seq_bad, L2.DL.R.bind_ok, L2.DL.R.bind_err, L2.DL.R.bind_bad, rS_ok, rS_err, rS_bad, Option.bind_some, Option.bind_none, Option.map_some, Option.map_none, Option.join_some, gN, noOwn, noOwns, noObj, noObjs, noSh, noShs, frz, frzs, List.map_cons, List.map_nil, List.getElem?_cons_zero, List.getElem?_cons_succ, List.set_cons_zero, List.set_cons_succ, List.length_cons, List.length_nil, List.cons_append, List.nil_append, List.replicate, setS_nil, setS_cons, gsNil, gsCons, gTn, Bool.and_true, Bool.true_and, Bool.and_false, Bool.false_and, Bool.or_true, Bool.true_or, Bool.or_false, Bool.false_or, Bool.not_true, Bool.not_false, Bool.and_self, if_true, if_false, Bool.false_eq_true, reduceIte, decide_true, decide_false, callIO, callPB, gatherA, backA, List.take_succ_cons, List.take_zero, atI0, atI1, atI2, atI3, Nat.reduceAdd, Nat.reduceSub, Int.reduceLT, Int.reduceLE, Int.reduceNeg, Int.reduceAdd, Int.reduceSub, Int.reduceMul, Nat.reduceLT, Nat.reduceLeDiff, Int.reduceEq, Int.reduceBEq, l1_law_bag, oMul_lit, oMod_int]
    exact e
theorem bag_spec (K : PySem.W.Frag) (ns : List Int) : ∃ nums salt, m_law_bag K [.scr K ns] = .ok (bagV nums 0 0 salt) := by
  have e1 : ∀ ρ, pSlice K (pVar 0) poNone (poSome (pC (.int 63))) (some (.scr K ns) :: ρ) = some (.lst true (cutW (ns.map .int) none (some 63))) := fun ρ => by
    simp only [pSlice, sSeq_ap, sNil_ap, sIf_ap, sSet_ap, sRet_ap, sRetN_ap, sDrop_ap, sAsg_ap, sFor_ap, sAug_ap, sAugL_ap, sPut_ap, mT_ap, mTest_ap, mF_ap, mP_ap, mMove_ap, mFrz_ap, mFz_ap, sRaiseI_ap, mOp2_ap, mOp1_ap, mOpS_ap, mIx_ap, mIxL_ap, mIte_ap, mNot_ap, mAnd_ap, mOr_ap, mAndV_ap, mOrV_ap, msNil_ap, msCons_ap, psNil_ap, psCons_ap, pVar_ap, pC_ap, pOp1_ap, pOp2_ap, pOpS_ap, pTest_ap, pNot_ap, pAnd_ap, pOr_ap, pVal_ap, pAndV_ap, pOrV_ap, pIte_ap, pChain_ap, pNo_ap, poNone_ap, poSome_ap, pSl_ap, pSeq_ap, mSeq_ap, pRng_ap, mRng_ap, pComp_ap, mComp_ap, pYes_ap, pMet_ap, mMet_ap, mMeth_ap, pIsi_ap, pGet2_ap, aNil_ap, aSlot_ap, aVal_ap, mCallIO_ap, mCall_ap, mCallP_ap, mCallPB_ap, oIsN_ap, oNotN_ap, oAdd_int, oSub_int, ipAdd_int, ipSub_int, oLt_int, oLe_int, oGt_int, oGe_int, oLt_str, oLe_str, oGt_str, oGe_str, oEq_int, oNe_int, oEq_bl, oNeg_int, oSubs_lst, oSubs_tup, oIx_lst, oIx_tup, oLen_lst, oLen_tup, oIn_str, oNotIn_str, seqOf_str, seqOf_tup, seqOf_lst, startS, RS.seq_nx, RS.seq_ret, RS.seq_brk, RS.seq_ct, RS.seq_err, RS.seq_bad, L2.DL.R.bind_ok, L2.DL.R.bind_err, L2.DL.R.bind_bad, rS_ok, rS_err, rS_bad, Option.bind_some, Option.bind_none, Option.map_some, Option.map_none, Option.join_some, gN, noOwn, noOwns, noObj, noObjs, noSh, noShs, frz, frzs, List.map_cons, List.map_nil, List.getElem?_cons_zero, List.getElem?_cons_succ, List.set_cons_zero, List.set_cons_succ, List.length_cons, List.length_nil, List.cons_append, List.nil_append, List.replicate, setS_nil, setS_cons, gsNil, gsCons, gTn, Bool.and_true, Bool.true_and, Bool.and_false, Bool.false_and, Bool.or_true, Bool.true_or, Bool.or_false, Bool.false_or, Bool.not_true, Bool.not_false, Bool.and_self, if_true, if_false, Bool.false_eq_true, reduceIte, decide_true, decide_false, callIO, callPB, gatherA, backA, List.take_succ_cons, List.take_zero, atI0, atI1, atI2, atI3, Nat.reduceAdd, Nat.reduceSub, Int.reduceLT, Int.reduceLE, Int.reduceNeg, Int.reduceAdd, Int.reduceSub, Int.reduceMul, Nat.reduceLT, Nat.reduceLeDiff, Int.reduceEq, Int.reduceBEq, oSlice]
  obtain ⟨nums, en⟩ : ∃ nums : List Int, cutW (ns.map Val.int) none (some 63) = nums.map .int := by
    refine ⟨(ns.drop (HT.sIx ns.length 0 none)).take (HT.sIx ns.length ns.length (some 63) - HT.sIx ns.length 0 none), ?_⟩
    simp only [cutW, List.length_map, List.map_take, List.map_drop]
  unfold m_law_bag fnP g_law_bag
  simp only [sSeq_ap, sNil_ap, sIf_ap, sSet_ap, sRet_ap, sRetN_ap, sDrop_ap, sAsg_ap, sFor_ap, sAug_ap, sAugL_ap, sPut_ap, mT_ap, mTest_ap, mF_ap, mP_ap, mMove_ap, mFrz_ap, mFz_ap, sRaiseI_ap, mOp2_ap, mOp1_ap, mOpS_ap, mIx_ap, mIxL_ap, mIte_ap, mNot_ap, mAnd_ap, mOr_ap, mAndV_ap, mOrV_ap, msNil_ap, msCons_ap, psNil_ap, psCons_ap, pVar_ap, pC_ap, pOp1_ap, pOp2_ap, pOpS_ap, pTest_ap, pNot_ap, pAnd_ap, pOr_ap, pVal_ap, pAndV_ap, pOrV_ap, pIte_ap, pChain_ap, pNo_ap, poNone_ap, poSome_ap, pSl_ap, pSeq_ap, mSeq_ap, pRng_ap, mRng_ap, pComp_ap, mComp_ap, pYes_ap, pMet_ap, mMet_ap, mMeth_ap, pIsi_ap, pGet2_ap, aNil_ap, aSlot_ap, aVal_ap, mCallIO_ap, mCall_ap, mCallP_ap, mCallPB_ap, oIsN_ap, oNotN_ap, oAdd_int, oSub_int, ipAdd_int, ipSub_int, oLt_int, oLe_int, oGt_int, oGe_int, oLt_str, oLe_str, oGt_str, oGe_str, oEq_int, oNe_int, oEq_bl, oNeg_int, oSubs_lst, oSubs_tup, oIx_lst, oIx_tup, oLen_lst, oLen_tup, oIn_str, oNotIn_str, seqOf_str, seqOf_tup, seqOf_lst, startS, RS.seq_nx, RS.seq_ret, RS.seq_brk, RS.seq_ct, RS.seq_err, RS.seq_bad, L2.DL.R.bind_ok, L2.DL.R.bind_err, L2.DL.R.bind_bad, rS_ok, rS_err, rS_bad, Option.bind_some, Option.bind_none, Option.map_some, Option.map_none, Option.join_some, gN, noOwn, noOwns, noObj, noObjs, noSh, noShs, frz, frzs, List.map_cons, List.map_nil, List.getElem?_cons_zero, List.getElem?_cons_succ, List.set_cons_zero, List.set_cons_succ, List.length_cons, List.length_nil, List.cons_append, List.nil_append, List.replicate, setS_nil, setS_cons, gsNil, gsCons, gTn, Bool.and_true, Bool.true_and, Bool.and_false, Bool.false_and, Bool.or_true, Bool.true_or, Bool.or_false, Bool.false_or, Bool.not_true, Bool.not_false, Bool.and_self, if_true, if_false, Bool.false_eq_true, reduceIte, decide_true, decide_false, callIO, callPB, gatherA, backA, List.take_succ_cons, List.take_zero, atI0, atI1, atI2, atI3, Nat.reduceAdd, Nat.reduceSub, Int.reduceLT, Int.reduceLE, Int.reduceNeg, Int.reduceAdd, Int.reduceSub, Int.reduceMul, Nat.reduceLT, Nat.reduceLeDiff, Int.reduceEq, Int.reduceBEq, e1, en]
  obtain ⟨a, b, e⟩ := bag_loop K (.scr K ns) nums (nums.map Val.int).length none
  rw [e]
  have oL : oList [.lst true (nums.map .int)] = some (.lst true (nums.map .int)) := by simp only [oList, noOwns_ints, if_true]
  simp only [sSeq_ap, sNil_ap, sIf_ap, sSet_ap, sRet_ap, sRetN_ap, sDrop_ap, sAsg_ap, sFor_ap, sAug_ap, sAugL_ap, sPut_ap, mT_ap, mTest_ap, mF_ap, mP_ap, mMove_ap, mFrz_ap, mFz_ap, sRaiseI_ap, mOp2_ap, mOp1_ap, mOpS_ap, mIx_ap, mIxL_ap, mIte_ap, mNot_ap, mAnd_ap, mOr_ap, mAndV_ap, mOrV_ap, msNil_ap, msCons_ap, psNil_ap, psCons_ap, pVar_ap, pC_ap, pOp1_ap, pOp2_ap, pOpS_ap, pTest_ap, pNot_ap, pAnd_ap, pOr_ap, pVal_ap, pAndV_ap, pOrV_ap, pIte_ap, pChain_ap, pNo_ap, poNone_ap, poSome_ap, pSl_ap, pSeq_ap, mSeq_ap, pRng_ap, mRng_ap, pComp_ap, mComp_ap, pYes_ap, pMet_ap, mMet_ap, mMeth_ap, pIsi_ap, pGet2_ap, aNil_ap, aSlot_ap, aVal_ap, mCallIO_ap, mCall_ap, mCallP_ap, mCallPB_ap, oIsN_ap, oNotN_ap, oAdd_int, oSub_int, ipAdd_int, ipSub_int, oLt_int, oLe_int, oGt_int, oGe_int, oLt_str, oLe_str, oGt_str, oGe_str, oEq_int, oNe_int, oEq_bl, oNeg_int, oSubs_lst, oSubs_tup, oIx_lst, oIx_tup, oLen_lst, oLen_tup, oIn_str, oNotIn_str, seqOf_str, seqOf_tup, seqOf_lst, startS, RS.seq_nx, RS.seq_ret, RS.seq_brk, RS.seq_ct, RS.seq_err, RS.seq_bad, L2.DL.R.bind_ok, L2.DL.R.bind_err, L2.DL.R.bind_bad, rS_ok, rS_err, rS_bad, Option.bind_some, Option.bind_none, Option.map_some, Option.map_none, Option.join_some, gN, noOwn, noOwns, noObj, noObjs, noSh, noShs, frz, frzs, List.map_cons, List.map_nil, List.getElem?_cons_zero, List.getElem?_cons_succ, List.set_cons_zero, List.set_cons_succ, List.length_cons, List.length_nil, List.cons_append, List.nil_append, List.replicate, setS_nil, setS_cons, gsNil, gsCons, gTn, Bool.and_true, Bool.true_and, Bool.and_false, Bool.false_and, Bool.or_true, Bool.true_or, Bool.or_false, Bool.false_or, Bool.not_true, Bool.not_false, Bool.and_self, if_true, if_false, Bool.false_eq_true, reduceIte, decide_true, decide_false, callIO, callPB, gatherA, backA, List.take_succ_cons, List.take_zero, atI0, atI1, atI2, atI3, Nat.reduceAdd, Nat.reduceSub, Int.reduceLT, Int.reduceLE, Int.reduceNeg, Int.reduceAdd, Int.reduceSub, Int.reduceMul, Nat.reduceLT, Nat.reduceLeDiff, Int.reduceEq, Int.reduceBEq, e1, en, oL]
  exact ⟨nums, a, rfl⟩
end RT

namespace RT
open L2 PyProof.Rows PySem.Spec PySem L2.DL SX
def abcL : List Nat := (List.range 26).map (· + 97)
def abcS : Str := "abcdefghijklmnopqrstuvwxyz"
theorem abc_eq : abcS.cps.toList = abcL := by decide +kernel
theorem abc_len : abcS.length = 26 := by decide +kernel
theorem sizeLine_eq : sizeLine = 16777216 := rfl
theorem wipe3 {a b c d : Option Val} : wipeS [a, b, c, d] [3] = [a, b, c, none] := rfl
theorem word_loop {nums : List Int} {salt : Int} {size : Val} : ∀ (ws : List Val) (acc : List Nat) (at_ left : Int), 0 ≤ at_ → noOwns ws = true → (∀ c ∈ acc, c ∈ abcL) → acc.length + ws.length ≤ 100000 →
    ∃ (acc' : List Nat) (at' left' : Int), 0 ≤ at' ∧ acc'.length = acc.length + ws.length ∧ (∀ c ∈ acc', c ∈ abcL) ∧
      compM [3] [3] gN (mT pYes) (mIxL oIx 2 (mCallIO (m_law_pull) (aSlot 0 (aVal (mF (pC (.int 26))) aNil)))) ws (acc.map fun c => .str (S [c])) [some (bagV nums at_ left salt), some size, some (.str abcS), none]
        = .ok (acc'.map fun c => .str (S [c])) [some (bagV nums at' left' salt), some size, some (.str abcS), none]
  | [], acc, at_, left, h0, _, ha, _ => ⟨acc, at_, left, h0, by simp, ha, rfl⟩
  | w :: ws, acc, at_, left, h0, hw, ha, hl => by
    simp only [noOwns, Bool.and_eq_true] at hw
    obtain ⟨at1, left1, r, h1, hr0, hr1, e1⟩ := pull_spec (nums := nums) (left := left) (salt := salt) (many := 26) h0 (by decide) (by decide)
    obtain ⟨c, hc, ec⟩ := atI_lt (xs := abcS.cps.toList) (i := r) hr0 (by rw [abc_eq]; exact hr1)
    rw [abc_eq] at hc
    simp only [List.length_cons] at hl
    obtain ⟨acc', at2, left2, h2, l2, m2, e2⟩ := word_loop ws (acc ++ [c]) at1 left1 h1 hw.2 (fun x hx => by
      rcases List.mem_append.mp hx with hx | hx
      · exact ha x hx
      · rw [List.mem_singleton.mp hx]; exact hc) (by simp; omega)
    refine ⟨acc', at2, left2, h2, by simp at l2; simp; omega, m2, ?_⟩
    have ix : oIx (.str abcS) (.int r) = some (.str (S [c])) := by
      simp only [oIx, abc_len, sizeLine_eq, ec]; rfl
    have la : acc.length < sizeLine := by rw [sizeLine_eq]; omega
    rw [compM]
    simp only [sSeq_ap, sNil_ap, sIf_ap, sSet_ap, sRet_ap, sRetN_ap, sDrop_ap, sAsg_ap, sFor_ap, sAug_ap, sAugL_ap, sPut_ap, mT_ap, mTest_ap, mF_ap, mP_ap, mMove_ap, mFrz_ap, mFz_ap, sRaiseI_ap, mOp2_ap, mOp1_ap, mOpS_ap, mIx_ap, mIxL_ap, mIte_ap, mNot_ap, mAnd_ap, mOr_ap, mAndV_ap, mOrV_ap, msNil_ap, msCons_ap, psNil_ap, psCons_ap, pVar_ap, pC_ap, pOp1_ap, pOp2_ap, pOpS_ap, pTest_ap, pNot_ap, pAnd_ap, pOr_ap, pVal_ap, pAndV_ap, pOrV_ap, pIte_ap, pChain_ap, pNo_ap, poNone_ap, poSome_ap, pSl_ap, pSeq_ap, mSeq_ap, pRng_ap, mRng_ap, pComp_ap, mComp_ap, pYes_ap, pMet_ap, mMet_ap, mMeth_ap, pIsi_ap, pGet2_ap, aNil_ap, aSlot_ap, aVal_ap, mCallIO_ap, mCall_ap, mCallP_ap, mCallPB_ap, oIsN_ap, oNotN_ap, oAdd_int, oSub_int, ipAdd_int, ipSub_int, oLt_int, oLe_int, oGt_int, oGe_int, oLt_str, oLe_str, oGt_str, oGe_str, oEq_int, oNe_int, oEq_bl, oNeg_int, oSubs_lst, oSubs_tup, oIx_lst, oIx_tup, oLen_lst, oLen_tup, oIn_str, oNotIn_str, seqOf_str, seqOf_tup, seqOf_lst, startS, RS.seq_nx, RS.seq_ret, RS.seq_brk, RS.seq_ct, RS.seq_err, RS.seq_bad, L2.DL.R.bind_ok, L2.DL.R.bind_err, L2.DL.R.bind_bad, rS_ok, rS_err, rS_bad, Option.bind_some, Option.bind_none, Option.map_some, Option.map_none, Option.join_some, gN, noOwn, noOwns, noObj, noObjs, noSh, noShs, frz, frzs, List.map_cons, List.map_nil, List.getElem?_cons_zero, List.getElem?_cons_succ, List.set_cons_zero, List.set_cons_succ, List.length_cons, List.length_nil, List.cons_append, List.nil_append, List.replicate, setS_nil, setS_cons, gsNil, gsCons, gTn, Bool.and_true, Bool.true_and, Bool.and_false, Bool.false_and, Bool.or_true, Bool.true_or, Bool.or_false, Bool.false_or, Bool.not_true, Bool.not_false, Bool.and_self, if_true, if_false, Bool.false_eq_true, reduceIte, decide_true, decide_false, callIO, callPB, gatherA, backA, List.take_succ_cons, List.take_zero, atI0, atI1, atI2, atI3, Nat.reduceAdd, Nat.reduceSub, Int.reduceLT, Int.reduceLE, Int.reduceNeg, Int.reduceAdd, Int.reduceSub, Int.reduceMul, Nat.reduceLT, Nat.reduceLeDiff, Int.reduceEq, Int.reduceBEq, hw.1, nE_ok, e1, ix, wipe3, List.length_map, la]
    rw [List.map_append] at e2
    exact e2
theorem joinL_single : ∀ l : List Nat, TL.joinL [] (l.map fun c => [c]) = l
  | [] => rfl
  | [_] => rfl
  | a :: b :: r => by
    have := joinL_single (b :: r)
    simp only [List.map_cons] at this ⊢
    show [a] ++ ([] ++ TL.joinL [] ([b] :: r.map fun c => [c])) = a :: b :: r
    rw [this]; rfl
theorem strs_map (l : List (List Nat)) : strsOf (l.map fun c => .str (S c)) = some (l.map S) := by
  induction l with
  | nil => rfl
  | cons a l ih => simp only [List.map_cons, strsOf, ih, Option.map_some]
theorem sum_ones (l : List Nat) : ((l.map fun c => S [c]).map (·.length)).sum = l.length := by
  induction l with
  | nil => rfl
  | cons a l ih => simp only [List.map_cons, List.sum_cons, ih, S_len, List.length_cons, List.length_nil]; omega
theorem join_letters {l : List Nat} (h : l.length ≤ 100000) : gJoin (.str ("" : Str)) [.lst true (l.map fun c => .str (S [c]))] = some (.str (S l)) := by
  have e1 : strsOf (l.map fun c => .str (S [c])) = some (l.map fun c => S [c]) := by
    have := strs_map (l.map fun c => [c])
    simpa only [List.map_map, Function.comp_def] using this
  have e2 : Txt.join ("" : Str) (l.map fun c => S [c]) = S l := by
    have := join_S [] (l.map fun c => [c])
    rw [joinL_single, List.map_map] at this
    exact this
  have e3 : ((l.map fun c => S [c]).map (·.length)).sum + (l.map fun c => S [c]).length * ("" : Str).length ≤ 16777216 := by
    rw [sum_ones]; simp [show ("" : Str).length = 0 from rfl]; omega
  simp only [gJoin, e1, Option.bind_some, e2, e3, if_true]
theorem rng_no (a b : Int) : noOwns (rng a b) = true := noOwns_of fun w h => by
  obtain ⟨x, _, rfl⟩ := List.mem_map.mp h; rfl
theorem rng_len (a b : Int) : (rng a b).length = (b - a).toNat := by simp [rng]
theorem word_spec {nums : List Int} {at_ left salt : Int} {size : Int} (h0 : 0 ≤ at_) (hs : 0 ≤ size) (hs2 : size ≤ 100000) :
    ∃ (at' left' : Int) (l : List Nat), 0 ≤ at' ∧ (l.length : Int) = size ∧ (∀ c ∈ l, c ∈ abcL) ∧ m_law_word [bagV nums at_ left salt, .int size] = .ok (.str (S l)) [some (bagV nums at' left' salt), some (.int size)] := by
  obtain ⟨l, at', left', h1, h2, h3, e⟩ := word_loop (nums := nums) (salt := salt) (size := .int size) (rng 0 size) [] at_ left h0 (rng_no _ _) (by simp) (by rw [rng_len]; simp; omega)
  rw [rng_len] at h2
  simp only [List.length_nil, Int.sub_zero] at h2
  refine ⟨at', left', l, h1, by omega, h3, ?_⟩
  unfold m_law_word fnIO g_law_word
  have r1 := rngOf_one (j := size) (by omega) (by omega)
  have e' : compM [3] [3] gN (mT pYes) (mIxL oIx 2 (mCallIO (m_law_pull) (aSlot 0 (aVal (mF (pC (.int 26))) aNil)))) (rng 0 size) [] [some (bagV nums at_ left salt), some (.int size), some (.str ("abcdefghijklmnopqrstuvwxyz" : Str)), none] = .ok (l.map fun c => .str (S [c])) [some (bagV nums at' left' salt), some (.int size), some (.str ("abcdefghijklmnopqrstuvwxyz" : Str)), none] := e
  simp only [sSeq_ap, sNil_ap, sIf_ap, sSet_ap, sRet_ap, sRetN_ap, sDrop_ap, sAsg_ap, sFor_ap, sAug_ap, sAugL_ap, sPut_ap, mT_ap, mTest_ap, mF_ap, mP_ap, mMove_ap, mFrz_ap, mFz_ap, sRaiseI_ap, mOp2_ap, mOp1_ap, mOpS_ap, mIx_ap, mIxL_ap, mIte_ap, mNot_ap, mAnd_ap, mOr_ap, mAndV_ap, mOrV_ap, msNil_ap, msCons_ap, psNil_ap, psCons_ap, pVar_ap, pC_ap, pOp1_ap, pOp2_ap, pOpS_ap, pTest_ap, pNot_ap, pAnd_ap, pOr_ap, pVal_ap, pAndV_ap, pOrV_ap, pIte_ap, pChain_ap, pNo_ap, poNone_ap, poSome_ap, pSl_ap, pSeq_ap, mSeq_ap, pRng_ap, mRng_ap, pComp_ap, mComp_ap, pYes_ap, pMet_ap, mMet_ap, mMeth_ap, pIsi_ap, pGet2_ap, aNil_ap, aSlot_ap, aVal_ap, mCallIO_ap, mCall_ap, mCallP_ap, mCallPB_ap, oIsN_ap, oNotN_ap, oAdd_int, oSub_int, ipAdd_int, ipSub_int, oLt_int, oLe_int, oGt_int, oGe_int, oLt_str, oLe_str, oGt_str, oGe_str, oEq_int, oNe_int, oEq_bl, oNeg_int, oSubs_lst, oSubs_tup, oIx_lst, oIx_tup, oLen_lst, oLen_tup, oIn_str, oNotIn_str, seqOf_str, seqOf_tup, seqOf_lst, startS, RS.seq_nx, RS.seq_ret, RS.seq_brk, RS.seq_ct, RS.seq_err, RS.seq_bad, L2.DL.R.bind_ok, L2.DL.R.bind_err, L2.DL.R.bind_bad, rS_ok, rS_err, rS_bad, Option.bind_some, Option.bind_none, Option.map_some, Option.map_none, Option.join_some, gN, noOwn, noOwns, noObj, noObjs, noSh, noShs, frz, frzs, List.map_cons, List.map_nil, List.getElem?_cons_zero, List.getElem?_cons_succ, List.set_cons_zero, List.set_cons_succ, List.length_cons, List.length_nil, List.cons_append, List.nil_append, List.replicate, setS_nil, setS_cons, gsNil, gsCons, gTn, Bool.and_true, Bool.true_and, Bool.and_false, Bool.false_and, Bool.or_true, Bool.true_or, Bool.or_false, Bool.false_or, Bool.not_true, Bool.not_false, Bool.and_self, if_true, if_false, Bool.false_eq_true, reduceIte, decide_true, decide_false, callIO, callPB, gatherA, backA, List.take_succ_cons, List.take_zero, atI0, atI1, atI2, atI3, Nat.reduceAdd, Nat.reduceSub, Int.reduceLT, Int.reduceLE, Int.reduceNeg, Int.reduceAdd, Int.reduceSub, Int.reduceMul, Nat.reduceLT, Nat.reduceLeDiff, Int.reduceEq, Int.reduceBEq, isStr, r1, wipe3, e', join_letters (l := l) (by omega)]
end RT

namespace RT
open L2 PyProof.Rows PySem.Spec PySem L2.DL SX
/-! ### what is told: True or False -/
theorem truth_spec {a b : Bool} : m_law_truth [.bl a, .bl b] = .ok (.bl (a == b)) := by
  unfold m_law_truth fnP g_law_truth
  have k : kitB "bool" "bool" = some true := rfl
  simp only [sSeq_ap, sNil_ap, sIf_ap, sSet_ap, sRet_ap, sRetN_ap, sDrop_ap, sAsg_ap, sFor_ap, sAug_ap, sAugL_ap, sPut_ap, mT_ap, mTest_ap, mF_ap, mP_ap, mMove_ap, mFrz_ap, mFz_ap, sRaiseI_ap, mOp2_ap, mOp1_ap, mOpS_ap, mIx_ap, mIxL_ap, mIte_ap, mNot_ap, mAnd_ap, mOr_ap, mAndV_ap, mOrV_ap, msNil_ap, msCons_ap, psNil_ap, psCons_ap, pVar_ap, pC_ap, pOp1_ap, pOp2_ap, pOpS_ap, pTest_ap, pNot_ap, pAnd_ap, pOr_ap, pVal_ap, pAndV_ap, pOrV_ap, pIte_ap, pChain_ap, pNo_ap, poNone_ap, poSome_ap, pSl_ap, pSeq_ap, mSeq_ap, pRng_ap, mRng_ap, pComp_ap, mComp_ap, pYes_ap, pMet_ap, mMet_ap, mMeth_ap, pIsi_ap, pGet2_ap, aNil_ap, aSlot_ap, aVal_ap, mCallIO_ap, mCall_ap, mCallP_ap, mCallPB_ap, oIsN_ap, oNotN_ap, oAdd_int, oSub_int, ipAdd_int, ipSub_int, oLt_int, oLe_int, oGt_int, oGe_int, oLt_str, oLe_str, oGt_str, oGe_str, oEq_int, oNe_int, oEq_bl, oNeg_int, oSubs_lst, oSubs_tup, oIx_lst, oIx_tup, oLen_lst, oLen_tup, oIn_str, oNotIn_str, seqOf_str, seqOf_tup, seqOf_lst, startS, RS.seq_nx, RS.seq_ret, RS.seq_brk, RS.seq_ct, RS.seq_err, RS.seq_bad, L2.DL.R.bind_ok, L2.DL.R.bind_err, L2.DL.R.bind_bad, rS_ok, rS_err, rS_bad, Option.bind_some, Option.bind_none, Option.map_some, Option.map_none, Option.join_some, gN, noOwn, noOwns, noObj, noObjs, noSh, noShs, frz, frzs, List.map_cons, List.map_nil, List.getElem?_cons_zero, List.getElem?_cons_succ, List.set_cons_zero, List.set_cons_succ, List.length_cons, List.length_nil, List.cons_append, List.nil_append, List.replicate, setS_nil, setS_cons, gsNil, gsCons, gTn, Bool.and_true, Bool.true_and, Bool.and_false, Bool.false_and, Bool.or_true, Bool.true_or, Bool.or_false, Bool.false_or, Bool.not_true, Bool.not_false, Bool.and_self, if_true, if_false, Bool.false_eq_true, reduceIte, decide_true, decide_false, callIO, callPB, gatherA, backA, List.take_succ_cons, List.take_zero, atI0, atI1, atI2, atI3, Nat.reduceAdd, Nat.reduceSub, Int.reduceLT, Int.reduceLE, Int.reduceNeg, Int.reduceAdd, Int.reduceSub, Int.reduceMul, Nat.reduceLT, Nat.reduceLeDiff, Int.reduceEq, Int.reduceBEq, tyName, k]
/-! ### names -/
def isNm (l : List Nat) : Bool := decide (1 ≤ l.length ∧ l.length ≤ 8) && l.all fun c => decide (c ∈ abcL)
theorem strIn_one (c : Nat) (b : Str) : strIn ⟨#[c]⟩ b = decide (c ∈ b.cps.toList) := rfl
theorem signs_S (l : List Nat) : DL.signs (S l) = l.map fun c => Val.str ⟨#[c]⟩ := by simp [DL.signs, S]
theorem name_loop (s : Val) : ∀ (l : List Nat) (x : Option Val), ∃ x', forL [1] gN l1_is_name (l.map fun c => Val.str ⟨#[c]⟩) [some s, x] = if l.all (fun c => decide (c ∈ abcL)) = true then .nx [some s, x'] else .ret (.bl false) [some s, x']
  | [], x => ⟨x, rfl⟩
  | c :: l, x => by
    obtain ⟨x', e⟩ := name_loop s l (some (.str ⟨#[c]⟩))
    by_cases hc : c ∈ abcL
    · refine ⟨x', ?_⟩
      rw [List.map_cons, forL]
      have : c ∈ abcS.cps.toList := by rw [abc_eq]; exact hc
      have e1 : strIn ⟨#[c]⟩ ("abcdefghijklmnopqrstuvwxyz" : Str) = true := by rw [strIn_one]; exact decide_eq_true this
      simp only [sSeq_ap, sNil_ap, sIf_ap, sSet_ap, sRet_ap, sRetN_ap, sDrop_ap, sAsg_ap, sFor_ap, sAug_ap, sAugL_ap, sPut_ap, mT_ap, mTest_ap, mF_ap, mP_ap, mMove_ap, mFrz_ap, mFz_ap, sRaiseI_ap, mOp2_ap, mOp1_ap, mOpS_ap, mIx_ap, mIxL_ap, mIte_ap, mNot_ap, mAnd_ap, mOr_ap, mAndV_ap, mOrV_ap, msNil_ap, msCons_ap, psNil_ap, psCons_ap, pVar_ap, pC_ap, pOp1_ap, pOp2_ap, pOpS_ap, pTest_ap, pNot_ap, pAnd_ap, pOr_ap, pVal_ap, pAndV_ap, pOrV_ap, pIte_ap, pChain_ap, pNo_ap, poNone_ap, poSome_ap, pSl_ap, pSeq_ap, mSeq_ap, pRng_ap, mRng_ap, pComp_ap, mComp_ap, pYes_ap, pMet_ap, mMet_ap, mMeth_ap, pIsi_ap, pGet2_ap, aNil_ap, aSlot_ap, aVal_ap, mCallIO_ap, mCall_ap, mCallP_ap, mCallPB_ap, oIsN_ap, oNotN_ap, oAdd_int, oSub_int, ipAdd_int, ipSub_int, oLt_int, oLe_int, oGt_int, oGe_int, oLt_str, oLe_str, oGt_str, oGe_str, oEq_int, oNe_int, oEq_bl, oNeg_int, oSubs_lst, oSubs_tup, oIx_lst, oIx_tup, oLen_lst, oLen_tup, oIn_str, oNotIn_str, seqOf_str, seqOf_tup, seqOf_lst, startS, RS.seq_nx, RS.seq_ret, RS.seq_brk, RS.seq_ct, RS.seq_err, RS.seq_bad, L2.DL.R.bind_ok, L2.DL.R.bind_err, L2.DL.R.bind_bad, rS_ok, rS_err, rS_bad, Option.bind_some, Option.bind_none, Option.map_some, Option.map_none, Option.join_some, gN, noOwn, noOwns, noObj, noObjs, noSh, noShs, frz, frzs, List.map_cons, List.map_nil, List.getElem?_cons_zero, List.getElem?_cons_succ, List.set_cons_zero, List.set_cons_succ, List.length_cons, List.length_nil, List.cons_append, List.nil_append, List.replicate, setS_nil, setS_cons, gsNil, gsCons, gTn, Bool.and_true, Bool.true_and, Bool.and_false, Bool.false_and, Bool.or_true, Bool.true_or, Bool.or_false, Bool.false_or, Bool.not_true, Bool.not_false, Bool.and_self, if_true, if_false, Bool.false_eq_true, reduceIte, decide_true, decide_false, callIO, callPB, gatherA, backA, List.take_succ_cons, List.take_zero, atI0, atI1, atI2, atI3, Nat.reduceAdd, Nat.reduceSub, Int.reduceLT, Int.reduceLE, Int.reduceNeg, Int.reduceAdd, Int.reduceSub, Int.reduceMul, Nat.reduceLT, Nat.reduceLeDiff, Int.reduceEq, Int.reduceBEq, l1_is_name, e1, List.all_cons, hc]
      exact e
    · refine ⟨some (.str ⟨#[c]⟩), ?_⟩
      rw [List.map_cons, forL]
      have : c ∉ abcS.cps.toList := by rw [abc_eq]; exact hc
      have e1 : strIn ⟨#[c]⟩ ("abcdefghijklmnopqrstuvwxyz" : Str) = false := by rw [strIn_one]; exact decide_eq_false this
      simp only [sSeq_ap, sNil_ap, sIf_ap, sSet_ap, sRet_ap, sRetN_ap, sDrop_ap, sAsg_ap, sFor_ap, sAug_ap, sAugL_ap, sPut_ap, mT_ap, mTest_ap, mF_ap, mP_ap, mMove_ap, mFrz_ap, mFz_ap, sRaiseI_ap, mOp2_ap, mOp1_ap, mOpS_ap, mIx_ap, mIxL_ap, mIte_ap, mNot_ap, mAnd_ap, mOr_ap, mAndV_ap, mOrV_ap, msNil_ap, msCons_ap, psNil_ap, psCons_ap, pVar_ap, pC_ap, pOp1_ap, pOp2_ap, pOpS_ap, pTest_ap, pNot_ap, pAnd_ap, pOr_ap, pVal_ap, pAndV_ap, pOrV_ap, pIte_ap, pChain_ap, pNo_ap, poNone_ap, poSome_ap, pSl_ap, pSeq_ap, mSeq_ap, pRng_ap, mRng_ap, pComp_ap, mComp_ap, pYes_ap, pMet_ap, mMet_ap, mMeth_ap, pIsi_ap, pGet2_ap, aNil_ap, aSlot_ap, aVal_ap, mCallIO_ap, mCall_ap, mCallP_ap, mCallPB_ap, oIsN_ap, oNotN_ap, oAdd_int, oSub_int, ipAdd_int, ipSub_int, oLt_int, oLe_int, oGt_int, oGe_int, oLt_str, oLe_str, oGt_str, oGe_str, oEq_int, oNe_int, oEq_bl, oNeg_int, oSubs_lst, oSubs_tup, oIx_lst, oIx_tup, oLen_lst, oLen_tup, oIn_str, oNotIn_str, seqOf_str, seqOf_tup, seqOf_lst, startS, RS.seq_nx, RS.seq_ret, RS.seq_brk, RS.seq_ct, RS.seq_err, RS.seq_bad, L2.DL.R.bind_ok, L2.DL.R.bind_err, L2.DL.R.bind_bad, rS_ok, rS_err, rS_bad, Option.bind_some, Option.bind_none, Option.map_some, Option.map_none, Option.join_some, gN, noOwn, noOwns, noObj, noObjs, noSh, noShs, frz, frzs, List.map_cons, List.map_nil, List.getElem?_cons_zero, List.getElem?_cons_succ, List.set_cons_zero, List.set_cons_succ, List.length_cons, List.length_nil, List.cons_append, List.nil_append, List.replicate, setS_nil, setS_cons, gsNil, gsCons, gTn, Bool.and_true, Bool.true_and, Bool.and_false, Bool.false_and, Bool.or_true, Bool.true_or, Bool.or_false, Bool.false_or, Bool.not_true, Bool.not_false, Bool.and_self, if_true, if_false, Bool.false_eq_true, reduceIte, decide_true, decide_false, callIO, callPB, gatherA, backA, List.take_succ_cons, List.take_zero, atI0, atI1, atI2, atI3, Nat.reduceAdd, Nat.reduceSub, Int.reduceLT, Int.reduceLE, Int.reduceNeg, Int.reduceAdd, Int.reduceSub, Int.reduceMul, Nat.reduceLT, Nat.reduceLeDiff, Int.reduceEq, Int.reduceBEq, l1_is_name, e1, List.all_cons, hc]
theorem name_spec {l : List Nat} (h : l.length ≤ 16777216) : m_is_name [.str (S l)] = .ok (.bl (isNm l)) := by
  have hl : oLen [.str (S l)] = some (.int l.length) := by rw [oLen_str (by rw [S_len]; exact h), S_len]
  unfold m_is_name fnP g_is_name
  by_cases h1 : 1 ≤ l.length
  · by_cases h2 : l.length ≤ 8
    · have a1 : (1 : Int) ≤ l.length := by omega
      have a2 : (l.length : Int) ≤ 8 := by omega
      obtain ⟨x', e⟩ := name_loop (.str (S l)) l none
      simp only [sSeq_ap, sNil_ap, sIf_ap, sSet_ap, sRet_ap, sRetN_ap, sDrop_ap, sAsg_ap, sFor_ap, sAug_ap, sAugL_ap, sPut_ap, mT_ap, mTest_ap, mF_ap, mP_ap, mMove_ap, mFrz_ap, mFz_ap, sRaiseI_ap, mOp2_ap, mOp1_ap, mOpS_ap, mIx_ap, mIxL_ap, mIte_ap, mNot_ap, mAnd_ap, mOr_ap, mAndV_ap, mOrV_ap, msNil_ap, msCons_ap, psNil_ap, psCons_ap, pVar_ap, pC_ap, pOp1_ap, pOp2_ap, pOpS_ap, pTest_ap, pNot_ap, pAnd_ap, pOr_ap, pVal_ap, pAndV_ap, pOrV_ap, pIte_ap, pChain_ap, pNo_ap, poNone_ap, poSome_ap, pSl_ap, pSeq_ap, mSeq_ap, pRng_ap, mRng_ap, pComp_ap, mComp_ap, pYes_ap, pMet_ap, mMet_ap, mMeth_ap, pIsi_ap, pGet2_ap, aNil_ap, aSlot_ap, aVal_ap, mCallIO_ap, mCall_ap, mCallP_ap, mCallPB_ap, oIsN_ap, oNotN_ap, oAdd_int, oSub_int, ipAdd_int, ipSub_int, oLt_int, oLe_int, oGt_int, oGe_int, oLt_str, oLe_str, oGt_str, oGe_str, oEq_int, oNe_int, oEq_bl, oNeg_int, oSubs_lst, oSubs_tup, oIx_lst, oIx_tup, oLen_lst, oLen_tup, oIn_str, oNotIn_str, seqOf_str, seqOf_tup, seqOf_lst, startS, RS.seq_nx, RS.seq_ret, RS.seq_brk, RS.seq_ct, RS.seq_err, RS.seq_bad, L2.DL.R.bind_ok, L2.DL.R.bind_err, L2.DL.R.bind_bad, rS_ok, rS_err, rS_bad, Option.bind_some, Option.bind_none, Option.map_some, Option.map_none, Option.join_some, gN, noOwn, noOwns, noObj, noObjs, noSh, noShs, frz, frzs, List.map_cons, List.map_nil, List.getElem?_cons_zero, List.getElem?_cons_succ, List.set_cons_zero, List.set_cons_succ, List.length_cons, List.length_nil, List.cons_append, List.nil_append, List.replicate, setS_nil, setS_cons, gsNil, gsCons, gTn, Bool.and_true, Bool.true_and, Bool.and_false, Bool.false_and, Bool.or_true, Bool.true_or, Bool.or_false, Bool.false_or, Bool.not_true, Bool.not_false, Bool.and_self, if_true, if_false, Bool.false_eq_true, reduceIte, decide_true, decide_false, callIO, callPB, gatherA, backA, List.take_succ_cons, List.take_zero, atI0, atI1, atI2, atI3, Nat.reduceAdd, Nat.reduceSub, Int.reduceLT, Int.reduceLE, Int.reduceNeg, Int.reduceAdd, Int.reduceSub, Int.reduceMul, Nat.reduceLT, Nat.reduceLeDiff, Int.reduceEq, Int.reduceBEq, hl, a1, a2, signs_S, e, isNm, h1, h2, and_self]
      cases l.all fun c => decide (c ∈ abcL) <;> rfl
    · have a1 : (1 : Int) ≤ l.length := by omega
      have a2 : ¬ (l.length : Int) ≤ 8 := by omega
      simp only [sSeq_ap, sNil_ap, sIf_ap, sSet_ap, sRet_ap, sRetN_ap, sDrop_ap, sAsg_ap, sFor_ap, sAug_ap, sAugL_ap, sPut_ap, mT_ap, mTest_ap, mF_ap, mP_ap, mMove_ap, mFrz_ap, mFz_ap, sRaiseI_ap, mOp2_ap, mOp1_ap, mOpS_ap, mIx_ap, mIxL_ap, mIte_ap, mNot_ap, mAnd_ap, mOr_ap, mAndV_ap, mOrV_ap, msNil_ap, msCons_ap, psNil_ap, psCons_ap, pVar_ap, pC_ap, pOp1_ap, pOp2_ap, pOpS_ap, pTest_ap, pNot_ap, pAnd_ap, pOr_ap, pVal_ap, pAndV_ap, pOrV_ap, pIte_ap, pChain_ap, pNo_ap, poNone_ap, poSome_ap, pSl_ap, pSeq_ap, mSeq_ap, pRng_ap, mRng_ap, pComp_ap, mComp_ap, pYes_ap, pMet_ap, mMet_ap, mMeth_ap, pIsi_ap, pGet2_ap, aNil_ap, aSlot_ap, aVal_ap, mCallIO_ap, mCall_ap, mCallP_ap, mCallPB_ap, oIsN_ap, oNotN_ap, oAdd_int, oSub_int, ipAdd_int, ipSub_int, oLt_int, oLe_int, oGt_int, oGe_int, oLt_str, oLe_str, oGt_str, oGe_str, oEq_int, oNe_int, oEq_bl, oNeg_int, oSubs_lst, oSubs_tup, oIx_lst, oIx_tup, oLen_lst, oLen_tup, oIn_str, oNotIn_str, seqOf_str, seqOf_tup, seqOf_lst, startS, RS.seq_nx, RS.seq_ret, RS.seq_brk, RS.seq_ct, RS.seq_err, RS.seq_bad, L2.DL.R.bind_ok, L2.DL.R.bind_err, L2.DL.R.bind_bad, rS_ok, rS_err, rS_bad, Option.bind_some, Option.bind_none, Option.map_some, Option.map_none, Option.join_some, gN, noOwn, noOwns, noObj, noObjs, noSh, noShs, frz, frzs, List.map_cons, List.map_nil, List.getElem?_cons_zero, List.getElem?_cons_succ, List.set_cons_zero, List.set_cons_succ, List.length_cons, List.length_nil, List.cons_append, List.nil_append, List.replicate, setS_nil, setS_cons, gsNil, gsCons, gTn, Bool.and_true, Bool.true_and, Bool.and_false, Bool.false_and, Bool.or_true, Bool.true_or, Bool.or_false, Bool.false_or, Bool.not_true, Bool.not_false, Bool.and_self, if_true, if_false, Bool.false_eq_true, reduceIte, decide_true, decide_false, callIO, callPB, gatherA, backA, List.take_succ_cons, List.take_zero, atI0, atI1, atI2, atI3, Nat.reduceAdd, Nat.reduceSub, Int.reduceLT, Int.reduceLE, Int.reduceNeg, Int.reduceAdd, Int.reduceSub, Int.reduceMul, Nat.reduceLT, Nat.reduceLeDiff, Int.reduceEq, Int.reduceBEq, hl, a1, a2, isNm, h2, and_false]
  · have a1 : ¬ (1 : Int) ≤ l.length := by omega
    simp only [sSeq_ap, sNil_ap, sIf_ap, sSet_ap, sRet_ap, sRetN_ap, sDrop_ap, sAsg_ap, sFor_ap, sAug_ap, sAugL_ap, sPut_ap, mT_ap, mTest_ap, mF_ap, mP_ap, mMove_ap, mFrz_ap, mFz_ap, sRaiseI_ap, mOp2_ap, mOp1_ap, mOpS_ap, mIx_ap, mIxL_ap, mIte_ap, mNot_ap, mAnd_ap, mOr_ap, mAndV_ap, mOrV_ap, msNil_ap, msCons_ap, psNil_ap, psCons_ap, pVar_ap, pC_ap, pOp1_ap, pOp2_ap, pOpS_ap, pTest_ap, pNot_ap, pAnd_ap, pOr_ap, pVal_ap, pAndV_ap, pOrV_ap, pIte_ap, pChain_ap, pNo_ap, poNone_ap, poSome_ap, pSl_ap, pSeq_ap, mSeq_ap, pRng_ap, mRng_ap, pComp_ap, mComp_ap, pYes_ap, pMet_ap, mMet_ap, mMeth_ap, pIsi_ap, pGet2_ap, aNil_ap, aSlot_ap, aVal_ap, mCallIO_ap, mCall_ap, mCallP_ap, mCallPB_ap, oIsN_ap, oNotN_ap, oAdd_int, oSub_int, ipAdd_int, ipSub_int, oLt_int, oLe_int, oGt_int, oGe_int, oLt_str, oLe_str, oGt_str, oGe_str, oEq_int, oNe_int, oEq_bl, oNeg_int, oSubs_lst, oSubs_tup, oIx_lst, oIx_tup, oLen_lst, oLen_tup, oIn_str, oNotIn_str, seqOf_str, seqOf_tup, seqOf_lst, startS, RS.seq_nx, RS.seq_ret, RS.seq_brk, RS.seq_ct, RS.seq_err, RS.seq_bad, L2.DL.R.bind_ok, L2.DL.R.bind_err, L2.DL.R.bind_bad, rS_ok, rS_err, rS_bad, Option.bind_some, Option.bind_none, Option.map_some, Option.map_none, Option.join_some, gN, noOwn, noOwns, noObj, noObjs, noSh, noShs, frz, frzs, List.map_cons, List.map_nil, List.getElem?_cons_zero, List.getElem?_cons_succ, List.set_cons_zero, List.set_cons_succ, List.length_cons, List.length_nil, List.cons_append, List.nil_append, List.replicate, setS_nil, setS_cons, gsNil, gsCons, gTn, Bool.and_true, Bool.true_and, Bool.and_false, Bool.false_and, Bool.or_true, Bool.true_or, Bool.or_false, Bool.false_or, Bool.not_true, Bool.not_false, Bool.and_self, if_true, if_false, Bool.false_eq_true, reduceIte, decide_true, decide_false, callIO, callPB, gatherA, backA, List.take_succ_cons, List.take_zero, atI0, atI1, atI2, atI3, Nat.reduceAdd, Nat.reduceSub, Int.reduceLT, Int.reduceLE, Int.reduceNeg, Int.reduceAdd, Int.reduceSub, Int.reduceMul, Nat.reduceLT, Nat.reduceLeDiff, Int.reduceEq, Int.reduceBEq, hl, a1, isNm, h1, false_and]
end RT

namespace RT
open L2 PyProof.Rows PySem.Spec PySem L2.DL SX
/-! ### lists of names -/
def encN (ss : List (List Nat)) : List Val := ss.map fun s => .str (S s)
theorem encN_nil : encN [] = [] := rfl
theorem encN_cons (s : List Nat) (ss : List (List Nat)) : encN (s :: ss) = .str (S s) :: encN ss := rfl
theorem encN_app (ss tt : List (List Nat)) : encN (ss ++ tt) = encN ss ++ encN tt := List.map_append
theorem encN_len (ss : List (List Nat)) : (encN ss).length = ss.length := List.length_map _
theorem noOwns_N (ss : List (List Nat)) : noOwns (encN ss) = true := noOwns_of fun w h => by
  obtain ⟨x, _, rfl⟩ := List.mem_map.mp h; rfl
theorem noShs_N (ss : List (List Nat)) : noShs (encN ss) = true := noShs_of fun w h => by
  obtain ⟨x, _, rfl⟩ := List.mem_map.mp h; rfl
theorem noObjs_N (ss : List (List Nat)) : noObjs (encN ss) = true := noObjs_of fun w h => by
  obtain ⟨x, _, rfl⟩ := List.mem_map.mp h; rfl
theorem frzs_N : ∀ ss : List (List Nat), frzs (encN ss) = encN ss
  | [] => rfl
  | s :: ss => by rw [encN_cons, frzs, frz, frzs_N ss]
theorem atI_N {ss : List (List Nat)} {i : Nat} (h : i < ss.length) : atI (encN ss) (i : Int) = some (.str (S ss[i])) := by
  refine atI_nat ?_
  rw [encN, List.getElem?_map, List.getElem?_eq_getElem h]; rfl
theorem atoms_N : ∀ ss : List (List Nat), atoms (encN ss) = some (ss.map fun s => .str (S s))
  | [] => rfl
  | s :: ss => by rw [encN_cons]; simp only [atoms, atom, atoms_N ss, Option.bind_some, Option.map_some, List.map_cons]
theorem inV_N (s : List Nat) (ss : List (List Nat)) : inV (.str (S s)) (ss.map fun s => V.str (S s)) = decide (s ∈ ss) := by
  induction ss with
  | nil => rfl
  | cons t ss ih =>
    unfold inV at ih ⊢
    rw [List.map_cons, List.any_cons, ih]
    have : eqV (V.str (S t)) (V.str (S s)) = decide (t = s) := S_beq_eq
    rw [this]
    by_cases e : t = s
    · subst e; simp
    · have e2 : ¬ s = t := fun z => e z.symm
      simp [e, e2]
theorem oIn_N (s : List Nat) (o : Bool) (ss : List (List Nat)) : oIn (.str (S s)) (.lst o (encN ss)) = some (.bl (decide (s ∈ ss))) := by
  simp only [oIn, inB, atom, atoms_N, inV_N, Option.map_some]
theorem oIn_Nt (s : List Nat) (ss : List (List Nat)) : oIn (.str (S s)) (.tup (encN ss)) = some (.bl (decide (s ∈ ss))) := by
  simp only [oIn, inB, atom, atoms_N, inV_N, Option.map_some, Option.bind_some]
theorem oNotIn_Nt (s : List Nat) (ss : List (List Nat)) : oNotIn (.str (S s)) (.tup (encN ss)) = some (.bl (!decide (s ∈ ss))) := by
  simp only [oNotIn, inB, atom, atoms_N, inV_N, Option.map_some, Option.bind_some]
theorem oNotIn_N (s : List Nat) (o : Bool) (ss : List (List Nat)) : oNotIn (.str (S s)) (.lst o (encN ss)) = some (.bl (!decide (s ∈ ss))) := by
  simp only [oNotIn, inB, atom, atoms_N, inV_N, Option.map_some]
/-! ### texts of letters -/
def okW (n : Nat) (s : List Nat) : Prop := s.length ≤ n ∧ ∀ c ∈ s, c < 1114112
theorem str_add {a b : List Nat} (h : a.length + b.length ≤ 16777216) : oAdd (.str (S a)) (.str (S b)) = some (.str (S (a ++ b))) := by
  simp only [oAdd, S_len, S_cat, sizeLine_eq, h, if_true]
theorem str_to {a : List Nat} {i : Int} (h : a.length ≤ 16777216) (h0 : 0 ≤ i) : oSl (.str (S a)) none (some i) = some (.str (S (a.take i.toNat))) := by
  simp only [oSl, S_len, sizeLine_eq, h, if_true, slice_to h0]
theorem str_from {a : List Nat} {i : Int} (h : a.length ≤ 16777216) (h0 : 0 ≤ i) : oSl (.str (S a)) (some i) none = some (.str (S (a.drop i.toNat))) := by
  simp only [oSl, S_len, sizeLine_eq, h, if_true, slice_from h0]
theorem str_butlast {a : List Nat} (h : a.length ≤ 16777216) (h0 : a ≠ []) : oSl (.str (S a)) none (some (-1)) = some (.str (S (a.take (a.length - 1)))) := by
  simp only [oSl, S_len, sizeLine_eq, h, if_true, slice_butlast h0]
theorem str_len {a : List Nat} (h : a.length ≤ 16777216) : oLen [.str (S a)] = some (.int a.length) := by
  rw [oLen_str (by rw [S_len]; exact h), S_len]
theorem oSubs_str {a : List Nat} {i : Nat} (h : i < a.length) (h2 : a.length ≤ 16777216) : oSubs (.str (S a)) (.int i) = some (.str (S [a[i]])) := by
  have : atI (S a).cps.toList (i : Int) = some a[i] := atI_nat (List.getElem?_eq_getElem h)
  simp only [oSubs, isDict, oIx, S_len, sizeLine_eq, h2, if_true, this, Bool.false_eq_true, if_false, Option.map_some]
/-! ### drawn names -/
def nm8 (s : List Nat) : Prop := 1 ≤ s.length ∧ s.length ≤ 8 ∧ ∀ c ∈ s, c ∈ abcL
def stepN (ss : List (List Nat)) (s : List Nat) (k : Nat) : List Nat := if s ∈ ss then s.take (s.length - 1) ++ [abcL.getD k 0] else s
theorem stepN_neg {ss : List (List Nat)} {s : List Nat} {k : Nat} (h : s ∉ ss) : stepN ss s k = s := if_neg h
theorem stepN_pos {ss : List (List Nat)} {s : List Nat} {k : Nat} (h : s ∈ ss) : stepN ss s k = s.take (s.length - 1) ++ [abcL.getD k 0] := if_pos h
theorem names_step {a b w4 : Option Val} {ss : List (List Nat)} {x5 : Option Val} : ∀ (ks : List Nat) (s : List Nat) (x : Option Val), nm8 s → (∀ k ∈ ks, k < 26) →
    ∃ x', nm8 (ks.foldl (stepN ss) s) ∧ forL [7] gN l1_law_names (ks.map fun k : Nat => Val.int (k : Int)) [a, b, some (.str abcS), some (.lst true (encN ss)), w4, x5, some (.str (S s)), x] = .nx [a, b, some (.str abcS), some (.lst true (encN ss)), w4, x5, some (.str (S (ks.foldl (stepN ss) s))), x']
  | [], s, x, hs, _ => ⟨x, hs, rfl⟩
  | k :: ws, s, x, hs, hw => by
    have hk := hw _ List.mem_cons_self
    rw [List.map_cons, List.foldl_cons]
    by_cases hi : s ∈ ss
    · have hne : s ≠ [] := fun e => by subst e; exact absurd hs.1 (by decide)
      have eD : abcL.getD k 0 = abcL[k] := by rw [List.getD_eq_getElem?_getD, List.getElem?_eq_getElem hk]; rfl
      have hc : abcL.getD k 0 ∈ abcL := by rw [eD]; exact List.getElem_mem _
      have ec : oSubs (.str abcS) (.int k) = some (.str (S [abcL.getD k 0])) := by
        rw [eD]
        have := oSubs_str (a := abcL) (i := k) hk (by decide)
        rwa [show S abcL = abcS from by rw [← abc_eq]] at this
      have es : stepN ss s k = s.take (s.length - 1) ++ [abcL.getD k 0] := if_pos hi
      rw [es]
      generalize abcL.getD k 0 = c at *
      have h2 : nm8 (s.take (s.length - 1) ++ [c]) := by
        obtain ⟨h1, h2, h3⟩ := hs
        refine ⟨by simp only [List.length_append, List.length_take, List.length_cons, List.length_nil]; omega, by simp only [List.length_append, List.length_take, List.length_cons, List.length_nil]; omega, fun d hd => ?_⟩
        rcases List.mem_append.mp hd with hd | hd
        · exact h3 d (List.mem_of_mem_take hd)
        · rw [List.mem_singleton.mp hd]; exact hc
      obtain ⟨x', hs', e⟩ := names_step ws (s.take (s.length - 1) ++ [c]) (some (.int k)) h2 fun w h => hw w (List.mem_cons_of_mem _ h)
      refine ⟨x', hs', ?_⟩
      rw [forL]
      have l1 : s.length ≤ 16777216 := Nat.le_trans hs.2.1 (by decide)
      have a1 := str_add (a := s.take (s.length - 1)) (b := [c]) (by simp only [List.length_take, List.length_cons, List.length_nil]; omega)
      simp only [sSeq_ap, sNil_ap, sIf_ap, sSet_ap, sRet_ap, sRetN_ap, sDrop_ap, sAsg_ap, sFor_ap, sAug_ap, sAugL_ap, sPut_ap, mT_ap, mTest_ap, mF_ap, mP_ap, mMove_ap, mFrz_ap, mFz_ap, sRaiseI_ap, mOp2_ap, mOp1_ap, mOpS_ap, mIx_ap, mIxL_ap, mIte_ap, mNot_ap, mAnd_ap, mOr_ap, mAndV_ap, mOrV_ap, msNil_ap, msCons_ap, psNil_ap, psCons_ap, pVar_ap, pC_ap, pOp1_ap, pOp2_ap, pOpS_ap, pTest_ap, pNot_ap, pAnd_ap, pOr_ap, pVal_ap, pAndV_ap, pOrV_ap, pIte_ap, pChain_ap, pNo_ap, poNone_ap, poSome_ap, pSl_ap, pSeq_ap, mSeq_ap, pRng_ap, mRng_ap, pComp_ap, mComp_ap, pYes_ap, pMet_ap, mMet_ap, mMeth_ap, pIsi_ap, pGet2_ap, aNil_ap, aSlot_ap, aVal_ap, mCallIO_ap, mCall_ap, mCallP_ap, mCallPB_ap, oIsN_ap, oNotN_ap, oAdd_int, oSub_int, ipAdd_int, ipSub_int, oLt_int, oLe_int, oGt_int, oGe_int, oLt_str, oLe_str, oGt_str, oGe_str, oEq_int, oNe_int, oEq_bl, oNeg_int, oSubs_lst, oSubs_tup, oIx_lst, oIx_tup, oLen_lst, oLen_tup, oIn_str, oNotIn_str, seqOf_str, seqOf_tup, seqOf_lst, startS, RS.seq_nx, RS.seq_ret, RS.seq_brk, RS.seq_ct, RS.seq_err, RS.seq_bad, L2.DL.R.bind_ok, L2.DL.R.bind_err, L2.DL.R.bind_bad, rS_ok, rS_err, rS_bad, Option.bind_some, Option.bind_none, Option.map_some, Option.map_none, Option.join_some, gN, noOwn, noOwns, noObj, noObjs, noSh, noShs, frz, frzs, List.map_cons, List.map_nil, List.getElem?_cons_zero, List.getElem?_cons_succ, List.set_cons_zero, List.set_cons_succ, List.length_cons, List.length_nil, List.cons_append, List.nil_append, List.replicate, setS_nil, setS_cons, gsNil, gsCons, gTn, Bool.and_true, Bool.true_and, Bool.and_false, Bool.false_and, Bool.or_true, Bool.true_or, Bool.or_false, Bool.false_or, Bool.not_true, Bool.not_false, Bool.and_self, if_true, if_false, Bool.false_eq_true, reduceIte, decide_true, decide_false, callIO, callPB, gatherA, backA, List.take_succ_cons, List.take_zero, atI0, atI1, atI2, atI3, Nat.reduceAdd, Nat.reduceSub, Int.reduceLT, Int.reduceLE, Int.reduceNeg, Int.reduceAdd, Int.reduceSub, Int.reduceMul, Nat.reduceLT, Nat.reduceLeDiff, Int.reduceEq, Int.reduceBEq, l1_law_names, oIn_N, hi, str_butlast l1 hne, ec, a1, Int.reduceNeg]
      exact e
    · have es : stepN ss s k = s := if_neg hi
      rw [es]
      obtain ⟨x', hs', e⟩ := names_step ws s (some (.int k)) hs fun w h => hw w (List.mem_cons_of_mem _ h)
      refine ⟨x', hs', ?_⟩
      rw [forL]
      simp only [sSeq_ap, sNil_ap, sIf_ap, sSet_ap, sRet_ap, sRetN_ap, sDrop_ap, sAsg_ap, sFor_ap, sAug_ap, sAugL_ap, sPut_ap, mT_ap, mTest_ap, mF_ap, mP_ap, mMove_ap, mFrz_ap, mFz_ap, sRaiseI_ap, mOp2_ap, mOp1_ap, mOpS_ap, mIx_ap, mIxL_ap, mIte_ap, mNot_ap, mAnd_ap, mOr_ap, mAndV_ap, mOrV_ap, msNil_ap, msCons_ap, psNil_ap, psCons_ap, pVar_ap, pC_ap, pOp1_ap, pOp2_ap, pOpS_ap, pTest_ap, pNot_ap, pAnd_ap, pOr_ap, pVal_ap, pAndV_ap, pOrV_ap, pIte_ap, pChain_ap, pNo_ap, poNone_ap, poSome_ap, pSl_ap, pSeq_ap, mSeq_ap, pRng_ap, mRng_ap, pComp_ap, mComp_ap, pYes_ap, pMet_ap, mMet_ap, mMeth_ap, pIsi_ap, pGet2_ap, aNil_ap, aSlot_ap, aVal_ap, mCallIO_ap, mCall_ap, mCallP_ap, mCallPB_ap, oIsN_ap, oNotN_ap, oAdd_int, oSub_int, ipAdd_int, ipSub_int, oLt_int, oLe_int, oGt_int, oGe_int, oLt_str, oLe_str, oGt_str, oGe_str, oEq_int, oNe_int, oEq_bl, oNeg_int, oSubs_lst, oSubs_tup, oIx_lst, oIx_tup, oLen_lst, oLen_tup, oIn_str, oNotIn_str, seqOf_str, seqOf_tup, seqOf_lst, startS, RS.seq_nx, RS.seq_ret, RS.seq_brk, RS.seq_ct, RS.seq_err, RS.seq_bad, L2.DL.R.bind_ok, L2.DL.R.bind_err, L2.DL.R.bind_bad, rS_ok, rS_err, rS_bad, Option.bind_some, Option.bind_none, Option.map_some, Option.map_none, Option.join_some, gN, noOwn, noOwns, noObj, noObjs, noSh, noShs, frz, frzs, List.map_cons, List.map_nil, List.getElem?_cons_zero, List.getElem?_cons_succ, List.set_cons_zero, List.set_cons_succ, List.length_cons, List.length_nil, List.cons_append, List.nil_append, List.replicate, setS_nil, setS_cons, gsNil, gsCons, gTn, Bool.and_true, Bool.true_and, Bool.and_false, Bool.false_and, Bool.or_true, Bool.true_or, Bool.or_false, Bool.false_or, Bool.not_true, Bool.not_false, Bool.and_self, if_true, if_false, Bool.false_eq_true, reduceIte, decide_true, decide_false, callIO, callPB, gatherA, backA, List.take_succ_cons, List.take_zero, atI0, atI1, atI2, atI3, Nat.reduceAdd, Nat.reduceSub, Int.reduceLT, Int.reduceLE, Int.reduceNeg, Int.reduceAdd, Int.reduceSub, Int.reduceMul, Nat.reduceLT, Nat.reduceLeDiff, Int.reduceEq, Int.reduceBEq, l1_law_names, oIn_N, hi]
      exact e
/-! the name drawn is a new one -/
theorem nodup_len {α : Type} [DecidableEq α] : ∀ (l k : List α), l.Nodup → (∀ x ∈ l, x ∈ k) → l.length ≤ k.length
  | [], k, _, _ => Nat.zero_le _
  | a :: l, k, h, hm => by
    rw [List.nodup_cons] at h
    have ha := hm a List.mem_cons_self
    have := nodup_len l (k.erase a) h.2 fun x hx => (List.mem_erase_of_ne fun e => h.1 (by rw [← e]; exact hx)).mpr (hm x (List.mem_cons_of_mem _ hx))
    rw [List.length_erase_of_mem ha] at this
    have hp : 0 < k.length := List.length_pos_of_mem ha
    rw [List.length_cons]; omega
def nthN (pre : List Nat) (j : Nat) : List Nat := pre ++ [abcL.getD j 0]
theorem steps_inv (ss : List (List Nat)) (s : List Nat) (hne : s ≠ []) : ∀ k : Nat, (List.range k).foldl (stepN ss) s ∉ ss ∨ ((∀ j, j + 1 < k → nthN (s.take (s.length - 1)) j ∈ ss) ∧ (k = 0 → (List.range k).foldl (stepN ss) s = s) ∧ (0 < k → (List.range k).foldl (stepN ss) s = nthN (s.take (s.length - 1)) (k - 1)))
  | 0 => .inr ⟨fun j h => absurd h (by omega), fun _ => rfl, fun h => absurd h (by omega)⟩
  | k + 1 => by
    rw [List.range_succ, List.foldl_append]
    show stepN ss ((List.range k).foldl (stepN ss) s) k ∉ ss ∨ _
    rcases steps_inv ss s hne k with h | ⟨h1, h2, h3⟩
    · left
      rw [stepN_neg h]; exact h
    · by_cases hm : (List.range k).foldl (stepN ss) s ∈ ss
      · right
        have e : stepN ss ((List.range k).foldl (stepN ss) s) k = nthN (s.take (s.length - 1)) k := by
          rw [stepN_pos hm]
          by_cases hk : k = 0
          · rw [h2 hk]; rfl
          · rw [h3 (by omega)]
            unfold nthN
            rw [List.length_append, List.length_cons, List.length_nil, Nat.add_sub_cancel, List.take_left]
        refine ⟨fun j hj => ?_, fun h => absurd h (by omega), fun _ => by rw [Nat.add_sub_cancel]; exact e⟩
        by_cases hj2 : j + 1 < k
        · exact h1 j hj2
        · have ej : j = k - 1 := by omega
          rw [ej, ← h3 (by omega)]; exact hm
      · left
        rw [stepN_neg hm]; exact hm
theorem abc_nodup : abcL.Nodup := by decide
theorem steps_new {ss : List (List Nat)} {s : List Nat} (hne : s ≠ []) (hl : ss.length < 26) : (List.range 26).foldl (stepN ss) s ∉ ss := by
  intro hm
  rcases steps_inv ss s hne 26 with h | ⟨h1, _, h3⟩
  · exact h hm
  · rw [h3 (by decide)] at hm
    have : (abcL.map fun c => s.take (s.length - 1) ++ [c]).length ≤ ss.length := nodup_len _ _ ?_ ?_
    · rw [List.length_map] at this
      exact absurd this (by rw [show abcL.length = 26 from rfl]; omega)
    · refine List.Pairwise.map _ (fun a b hab => ?_) abc_nodup
      intro e
      exact hab (by simpa using e)
    · intro x hx
      obtain ⟨c, hc, rfl⟩ := List.mem_map.mp hx
      obtain ⟨j, hj, rfl⟩ := List.getElem_of_mem hc
      have hj26 : j < 26 := hj
      have e : s.take (s.length - 1) ++ [abcL[j]] = nthN (s.take (s.length - 1)) j := by
        unfold nthN
        rw [List.getD_eq_getElem?_getD, List.getElem?_eq_getElem hj]; rfl
      refine Eq.mpr (congrArg (· ∈ ss) e) ?_
      by_cases h : j + 1 < 26
      · exact h1 j h
      · have h25 : j = 25 := by omega
        show nthN (s.take (s.length - 1)) j ∈ ss
        rw [h25]; exact hm
theorem rng26 : rng 0 26 = (List.range 26).map fun k : Nat => Val.int (k : Int) := rfl
theorem rng_mem {n : Nat} {w : Val} (h : w ∈ rng 0 n) : ∃ k : Nat, k < n ∧ w = .int k := by
  obtain ⟨k, hk, rfl⟩ := List.mem_map.mp h
  refine ⟨k, ?_, by simp⟩
  have := List.mem_range.mp hk
  omega
theorem names_loop {nums : List Int} {salt : Int} {b : Option Val} {st : List Nat} (hst : st.length ≤ 7 ∧ ∀ c ∈ st, c ∈ abcL) : ∀ (ws : List Val) (ss : List (List Nat)) (at_ left : Int) (x5 x6 x7 : Option Val), 0 ≤ at_ → ((∀ s ∈ ss, nm8 s) ∧ ss.Nodup) → ss.length + ws.length ≤ 26 → noOwns ws = true →
    ∃ (ss' : List (List Nat)) (at' left' : Int) (y5 y6 y7 : Option Val), 0 ≤ at' ∧ ((∀ s ∈ ss', nm8 s) ∧ ss'.Nodup) ∧ ss'.length = ss.length + ws.length ∧
      forL [5] gN l2_law_names ws [some (bagV nums at_ left salt), b, some (.str abcS), some (.lst true (encN ss)), some (.str (S st)), x5, x6, x7] = .nx [some (bagV nums at' left' salt), b, some (.str abcS), some (.lst true (encN ss')), some (.str (S st)), y5, y6, y7]
  | [], ss, at_, left, x5, x6, x7, h0, hs, _, _ => ⟨ss, at_, left, x5, x6, x7, h0, hs, rfl, rfl⟩
  | w :: ws, ss, at_, left, x5, x6, x7, h0, hs, hl, hw => by
    simp only [noOwns, Bool.and_eq_true] at hw
    simp only [List.length_cons] at hl
    have ll := str_len (a := st) (by omega)
    obtain ⟨at1, left1, r1, h1, hr0, hr1, e1⟩ := pull_spec (nums := nums) (left := left) (salt := salt) (many := 8 - st.length) h0 (by omega) (by omega)
    obtain ⟨at2, left2, l, h2, hl2, hm, e2⟩ := word_spec (nums := nums) (left := left1) (salt := salt) (size := 1 + r1) h1 (by omega) (by omega)
    have n1 : nm8 (st ++ l) := by
      refine ⟨by simp only [List.length_append]; omega, by simp only [List.length_append]; omega, fun c hc => ?_⟩
      rcases List.mem_append.mp hc with hc | hc
      · exact hst.2 c hc
      · exact hm c hc
    have a1 := str_add (a := st) (b := l) (by omega)
    obtain ⟨x', hs', e3⟩ := names_step (a := some (bagV nums at2 left2 salt)) (b := b) (w4 := some (.str (S st))) (ss := ss) (x5 := some w) (List.range 26) (st ++ l) x7 n1 fun w h => List.mem_range.mp h
    have hnew := steps_new (ss := ss) (s := st ++ l) (fun e => by rw [e] at n1; exact absurd n1.1 (by decide)) (by omega)
    generalize (List.range 26).foldl (stepN ss) (st ++ l) = s' at *
    obtain ⟨ss', at3, left3, y5, y6, y7, h3, hs3, l3, e4⟩ := names_loop (b := b) hst ws (ss ++ [s']) at2 left2 (some w) (some (.str (S s'))) x' h2 ⟨fun s hm => by
      rcases List.mem_append.mp hm with hm | hm
      · exact hs.1 s hm
      · rw [List.mem_singleton.mp hm]; exact hs', by
      rw [List.nodup_append]
      refine ⟨hs.2, by simp, fun a ha b hb => ?_⟩
      rw [List.mem_singleton] at hb
      rintro rfl
      subst hb; exact hnew ha⟩ (by simp only [List.length_append, List.length_cons, List.length_nil]; omega) hw.2
    refine ⟨ss', at3, left3, y5, y6, y7, h3, hs3, by simp only [List.length_append, List.length_cons, List.length_nil] at l3 ⊢; omega, ?_⟩
    have r26 := rngOf_one (j := 26) (by decide) (by decide)
    have ga : gAppend (encN ss) [.str (S s')] = some (.non, encN (ss ++ [s'])) := by
      simp only [gAppend, encN_len, sizeLine_eq, encN_app]
      rw [if_pos (by omega)]; rfl
    rw [forL]
    simp only [sSeq_ap, sNil_ap, sIf_ap, sSet_ap, sRet_ap, sRetN_ap, sDrop_ap, sAsg_ap, sFor_ap, sAug_ap, sAugL_ap, sPut_ap, mT_ap, mTest_ap, mF_ap, mP_ap, mMove_ap, mFrz_ap, mFz_ap, sRaiseI_ap, mOp2_ap, mOp1_ap, mOpS_ap, mIx_ap, mIxL_ap, mIte_ap, mNot_ap, mAnd_ap, mOr_ap, mAndV_ap, mOrV_ap, msNil_ap, msCons_ap, psNil_ap, psCons_ap, pVar_ap, pC_ap, pOp1_ap, pOp2_ap, pOpS_ap, pTest_ap, pNot_ap, pAnd_ap, pOr_ap, pVal_ap, pAndV_ap, pOrV_ap, pIte_ap, pChain_ap, pNo_ap, poNone_ap, poSome_ap, pSl_ap, pSeq_ap, mSeq_ap, pRng_ap, mRng_ap, pComp_ap, mComp_ap, pYes_ap, pMet_ap, mMet_ap, mMeth_ap, pIsi_ap, pGet2_ap, aNil_ap, aSlot_ap, aVal_ap, mCallIO_ap, mCall_ap, mCallP_ap, mCallPB_ap, oIsN_ap, oNotN_ap, oAdd_int, oSub_int, ipAdd_int, ipSub_int, oLt_int, oLe_int, oGt_int, oGe_int, oLt_str, oLe_str, oGt_str, oGe_str, oEq_int, oNe_int, oEq_bl, oNeg_int, oSubs_lst, oSubs_tup, oIx_lst, oIx_tup, oLen_lst, oLen_tup, oIn_str, oNotIn_str, seqOf_str, seqOf_tup, seqOf_lst, startS, RS.seq_nx, RS.seq_ret, RS.seq_brk, RS.seq_ct, RS.seq_err, RS.seq_bad, L2.DL.R.bind_ok, L2.DL.R.bind_err, L2.DL.R.bind_bad, rS_ok, rS_err, rS_bad, Option.bind_some, Option.bind_none, Option.map_some, Option.map_none, Option.join_some, gN, noOwn, noOwns, noObj, noObjs, noSh, noShs, frz, frzs, List.map_cons, List.map_nil, List.getElem?_cons_zero, List.getElem?_cons_succ, List.set_cons_zero, List.set_cons_succ, List.length_cons, List.length_nil, List.cons_append, List.nil_append, List.replicate, setS_nil, setS_cons, gsNil, gsCons, gTn, Bool.and_true, Bool.true_and, Bool.and_false, Bool.false_and, Bool.or_true, Bool.true_or, Bool.or_false, Bool.false_or, Bool.not_true, Bool.not_false, Bool.and_self, if_true, if_false, Bool.false_eq_true, reduceIte, decide_true, decide_false, callIO, callPB, gatherA, backA, List.take_succ_cons, List.take_zero, atI0, atI1, atI2, atI3, Nat.reduceAdd, Nat.reduceSub, Int.reduceLT, Int.reduceLE, Int.reduceNeg, Int.reduceAdd, Int.reduceSub, Int.reduceMul, Nat.reduceLT, Nat.reduceLeDiff, Int.reduceEq, Int.reduceBEq, l2_law_names, hw.1, ll, e1, e2, a1, r26, rng26, e3, ga]
    exact e4
theorem names_specN {nums : List Int} {at_ left salt : Int} {many : Int} (h0 : 0 ≤ at_) (hs : 0 ≤ many) (hs2 : many ≤ 26) :
    ∃ (at' left' : Int) (ss : List (List Nat)), 0 ≤ at' ∧ (ss.length : Int) = many ∧ ((∀ s ∈ ss, nm8 s) ∧ ss.Nodup) ∧ m_law_names [bagV nums at_ left salt, .int many] = .ok (.lst true (encN ss)) [some (bagV nums at' left' salt), some (.int many)] := by
  obtain ⟨at1, left1, r1, h1, hr0, hr1, e1⟩ := pull_spec (nums := nums) (left := left) (salt := salt) (many := 4) h0 (by decide) (by decide)
  have ix : ∃ k : Int, 0 ≤ k ∧ k ≤ 7 ∧ oIx (.lst true [.int 0, .int 0, .int 3, .int 7]) (.int r1) = some (.int k) := by
    obtain ⟨w, hw, ew⟩ := atI_lt (xs := [Val.int 0, .int 0, .int 3, .int 7]) hr0 hr1
    simp only [List.mem_cons, List.not_mem_nil, or_false] at hw
    rcases hw with rfl | rfl | rfl | rfl <;> exact ⟨_, by decide, by decide, ew⟩
  obtain ⟨k, hk0, hk7, ek⟩ := ix
  obtain ⟨at2, left2, st, h2, hl2, hm, e2⟩ := word_spec (nums := nums) (left := left1) (salt := salt) (size := k) h1 hk0 (by omega)
  obtain ⟨ss, at3, left3, y5, y6, y7, h3, hs3, l3, e4⟩ := names_loop (nums := nums) (salt := salt) (b := some (.int many)) (st := st) ⟨by omega, hm⟩ (rng 0 many) [] at2 left2 none none none h2 ⟨by simp, List.nodup_nil⟩ (by rw [rng_len]; simp only [List.length_nil]; omega) (rng_no _ _)
  rw [rng_len] at l3
  simp only [List.length_nil] at l3
  refine ⟨at3, left3, ss, h3, by omega, hs3, ?_⟩
  have r1' := rngOf_one (j := many) (by omega) (by omega)
  have g4 : ∀ ws : List Val, gLstN ws = if noOwns ws && decide (ws.length ≤ sizeLine) then some (.lst true ws) else none := fun _ => rfl
  have e5 : forL [5] gN l2_law_names (rng 0 many) [some (bagV nums at2 left2 salt), some (.int many), some (.str ("abcdefghijklmnopqrstuvwxyz" : Str)), some (.lst true []), some (.str (S st)), none, none, none] = _ := e4
  unfold m_law_names fnIO g_law_names
  simp only [sSeq_ap, sNil_ap, sIf_ap, sSet_ap, sRet_ap, sRetN_ap, sDrop_ap, sAsg_ap, sFor_ap, sAug_ap, sAugL_ap, sPut_ap, mT_ap, mTest_ap, mF_ap, mP_ap, mMove_ap, mFrz_ap, mFz_ap, sRaiseI_ap, mOp2_ap, mOp1_ap, mOpS_ap, mIx_ap, mIxL_ap, mIte_ap, mNot_ap, mAnd_ap, mOr_ap, mAndV_ap, mOrV_ap, msNil_ap, msCons_ap, psNil_ap, psCons_ap, pVar_ap, pC_ap, pOp1_ap, pOp2_ap, pOpS_ap, pTest_ap, pNot_ap, pAnd_ap, pOr_ap, pVal_ap, pAndV_ap, pOrV_ap, pIte_ap, pChain_ap, pNo_ap, poNone_ap, poSome_ap, pSl_ap, pSeq_ap, mSeq_ap, pRng_ap, mRng_ap, pComp_ap, mComp_ap, pYes_ap, pMet_ap, mMet_ap, mMeth_ap, pIsi_ap, pGet2_ap, aNil_ap, aSlot_ap, aVal_ap, mCallIO_ap, mCall_ap, mCallP_ap, mCallPB_ap, oIsN_ap, oNotN_ap, oAdd_int, oSub_int, ipAdd_int, ipSub_int, oLt_int, oLe_int, oGt_int, oGe_int, oLt_str, oLe_str, oGt_str, oGe_str, oEq_int, oNe_int, oEq_bl, oNeg_int, oSubs_lst, oSubs_tup, oIx_lst, oIx_tup, oLen_lst, oLen_tup, oIn_str, oNotIn_str, seqOf_str, seqOf_tup, seqOf_lst, startS, RS.seq_nx, RS.seq_ret, RS.seq_brk, RS.seq_ct, RS.seq_err, RS.seq_bad, L2.DL.R.bind_ok, L2.DL.R.bind_err, L2.DL.R.bind_bad, rS_ok, rS_err, rS_bad, Option.bind_some, Option.bind_none, Option.map_some, Option.map_none, Option.join_some, gN, noOwn, noOwns, noObj, noObjs, noSh, noShs, frz, frzs, List.map_cons, List.map_nil, List.getElem?_cons_zero, List.getElem?_cons_succ, List.set_cons_zero, List.set_cons_succ, List.length_cons, List.length_nil, List.cons_append, List.nil_append, List.replicate, setS_nil, setS_cons, gsNil, gsCons, gTn, Bool.and_true, Bool.true_and, Bool.and_false, Bool.false_and, Bool.or_true, Bool.true_or, Bool.or_false, Bool.false_or, Bool.not_true, Bool.not_false, Bool.and_self, if_true, if_false, Bool.false_eq_true, reduceIte, decide_true, decide_false, callIO, callPB, gatherA, backA, List.take_succ_cons, List.take_zero, atI0, atI1, atI2, atI3, Nat.reduceAdd, Nat.reduceSub, Int.reduceLT, Int.reduceLE, Int.reduceNeg, Int.reduceAdd, Int.reduceSub, Int.reduceMul, Nat.reduceLT, Nat.reduceLeDiff, Int.reduceEq, Int.reduceBEq, g4, show (4 : Nat) ≤ sizeLine by decide, show (0 : Nat) ≤ sizeLine by decide, e1, ek, e2, r1', e5]
theorem names_spec {nums : List Int} {at_ left salt : Int} {many : Int} (h0 : 0 ≤ at_) (hs : 0 ≤ many) (hs2 : many ≤ 26) :
    ∃ (at' left' : Int) (ss : List (List Nat)), 0 ≤ at' ∧ (ss.length : Int) = many ∧ (∀ s ∈ ss, nm8 s) ∧ m_law_names [bagV nums at_ left salt, .int many] = .ok (.lst true (encN ss)) [some (bagV nums at' left' salt), some (.int many)] := by
  obtain ⟨a, l, ss, h1, h2, h3, h4⟩ := names_specN (nums := nums) (left := left) (salt := salt) h0 hs hs2
  exact ⟨a, l, ss, h1, h2, h3.1, h4⟩
end RT

namespace RT
open L2 PyProof.Rows PySem.Spec PySem L2.DL SX
/-! ### sorted names -/
def leN (a b : List Nat) : Bool := decide (a ≤ b)
def sortN (ss : List (List Nat)) : List (List Nat) := ss.mergeSort leN
theorem sortN_perm (ss : List (List Nat)) : (sortN ss).Perm ss := List.mergeSort_perm ss leN
theorem toPys_N : ∀ ss : List (List Nat), toPys (encN ss) = some (ss.map fun s => .str (S s))
  | [] => rfl
  | s :: ss => by rw [encN_cons]; simp only [toPys, toPy, toPys_N ss, Option.bind_some, Option.map_some, List.map_cons]
theorem merge_map {α β : Type} (f : α → β) (r : β → β → Bool) (l : List α) : (l.map f).mergeSort r = (l.mergeSort fun a b => r (f a) (f b)).map f :=
  (List.map_mergeSort (f := f) (r := fun a b => r (f a) (f b)) (s := r) (l := l) (fun _ _ _ _ => rfl)).symm
theorem erase_map {α β : Type} (f : α → β) : ∀ (l : List α) (i : Nat), (l.map f).eraseIdx i = (l.eraseIdx i).map f
  | [], _ => rfl
  | _ :: _, 0 => rfl
  | a :: l, i + 1 => by simp only [List.map_cons, List.eraseIdx_cons_succ, erase_map f l i]
theorem sortOk_N (ss : List (List Nat)) : sortOk (ss.map fun s => PyData.str (S s)) = true := by
  have h1 : alikesB (ss.map fun s => PyData.str (S s)) = true := by
    unfold alikesB
    rw [List.all_eq_true]
    intro x hx
    obtain ⟨a, _, rfl⟩ := List.mem_map.mp hx
    rw [List.all_eq_true]
    intro y hy
    obtain ⟨b, _, rfl⟩ := List.mem_map.mp hy
    rfl
  have h2 : (ss.map fun s => PyData.str (S s)).all notTN = true := List.all_eq_true.mpr fun x hx => by
    obtain ⟨a, _, rfl⟩ := List.mem_map.mp hx; rfl
  have h3 : (ss.map fun s => PyData.str (S s)).all notN = true := List.all_eq_true.mpr fun x hx => by
    obtain ⟨a, _, rfl⟩ := List.mem_map.mp hx; rfl
  have h4 : ((ss.map fun s => PyData.str (S s)).all fun d => decide (d.depth ≤ 60)) = true := List.all_eq_true.mpr fun x hx => by
    obtain ⟨a, _, rfl⟩ := List.mem_map.mp hx; rfl
  simp only [sortOk, h1, h2, h3, h4, Bool.or_true, Bool.true_or, Bool.and_self]
theorem zip_two {α β γ : Type} (f : α → β) (g : α → γ) (l : List α) : (l.map f).zip (l.map g) = l.map fun a => (f a, g a) := by
  induction l with
  | nil => rfl
  | cons a l ih => simp only [List.map_cons, List.zip_cons_cons, ih]
theorem sortW_N (ss : List (List Nat)) : sortW (encN ss) (ss.map fun s => .str (S s)) = encN (sortN ss) := by
  unfold sortW encN sortN
  rw [zip_two, merge_map, List.map_map]
  have : (fun a b : List Nat => PySem.W.dataLe false Prod.snd ((Val.str (S a), PyData.str (S a)) : Val × PyData) (Val.str (S b), PyData.str (S b))) = leN := by
    have := PySem.W.dataLe_str (fun s : List Nat => S s)
    exact this
  rw [this]
  rfl
theorem oSorted_N (o : Bool) (ss : List (List Nat)) : oSorted [.lst o (encN ss)] = some (.lst true (encN (sortN ss))) := by
  simp only [oSorted, noOwns_N, if_true, toPys_N, Option.bind_some, sortOk_N, sortW_N]
/-! ### equality of lists of names -/
def okC (ss : List (List Nat)) : Prop := ∀ s ∈ ss, ∀ c ∈ s, c < 1114112
theorem strOk_of {l : List Nat} (h : ∀ c ∈ l, c < 1114112) : PyData.strOk (S l) = true := by
  unfold PyData.strOk
  rw [← Array.all_toList, List.all_eq_true]
  intro c hc
  exact decide_eq_true (h c hc)
theorem abc_lt {c : Nat} (h : c ∈ abcL) : c < 1114112 := by
  obtain ⟨x, hx, rfl⟩ := List.mem_map.mp h
  have := List.mem_range.mp hx
  omega
theorem canLay_N : ∀ {ss : List (List Nat)}, okC ss → PyData.canLayAll0 (ss.map fun s => .str (S s)) = true
  | [], _ => rfl
  | s :: ss, h => by
    simp only [List.map_cons, PyData.canLayAll0, PyData.canLay0, strOk_of (h s List.mem_cons_self), canLay_N fun t ht => h t (List.mem_cons_of_mem _ ht), Bool.and_self]
theorem depth_N : ∀ ss : List (List Nat), PyData.depthAll (ss.map fun s => .str (S s)) = 0
  | [] => rfl
  | s :: ss => by simp only [List.map_cons, PyData.depthAll, PyData.depth, depth_N ss, Nat.max_self]
theorem eqvAll_N : ∀ ss tt : List (List Nat), PyData.eqvAll (ss.map fun s => .str (S s)) (tt.map fun s => .str (S s)) = decide (ss = tt)
  | [], [] => rfl
  | [], _ :: _ => rfl
  | _ :: _, [] => rfl
  | s :: ss, t :: tt => by
    simp only [List.map_cons, PyData.eqvAll, PyData.eqv, S_beq_eq, eqvAll_N ss tt, List.cons.injEq]
    by_cases h1 : s = t <;> by_cases h2 : ss = tt <;> simp [h1, h2]
theorem shaped_N {ss : List (List Nat)} (h : okC ss) : SeqAt.shaped (.list (ss.map fun s => .str (S s))) = true := by
  simp only [SeqAt.shaped, PyData.canLay0, canLay_N h, PyData.depth, depth_N, Bool.true_and]
  decide
theorem shaped_Nt {ss : List (List Nat)} (h : okC ss) : SeqAt.shaped (.tuple (ss.map fun s => .str (S s))) = true := by
  simp only [SeqAt.shaped, PyData.canLay0, canLay_N h, PyData.depth, depth_N, Bool.true_and]
  decide
theorem eqB_N {o p : Bool} {ss tt : List (List Nat)} (h : okC ss) (h2 : okC tt) : eqB (.lst o (encN ss)) (.lst p (encN tt)) = some (decide (ss = tt)) := by
  simp only [eqB, toPy, toPys_N, Option.map_some, Option.bind_some, shaped_N h, shaped_N h2, Bool.and_self, if_true, PyData.eqv, eqvAll_N]
theorem eqB_Nt {ss tt : List (List Nat)} (h : okC ss) (h2 : okC tt) : eqB (.tup (encN ss)) (.tup (encN tt)) = some (decide (ss = tt)) := by
  simp only [eqB, toPy, toPys_N, Option.map_some, Option.bind_some, shaped_Nt h, shaped_Nt h2, Bool.and_self, if_true, PyData.eqv, eqvAll_N]
theorem okC_nil : okC [] := fun _ h => by cases h
theorem ne_nil_N {o p : Bool} {ss : List (List Nat)} (h : okC ss) : oNe (.lst o (encN ss)) (.lst p []) = some (.bl (!decide (ss = []))) := by
  simp only [oNe, show ([] : List Val) = encN [] from rfl, eqB_N h okC_nil, Option.map_some]
theorem eq_nil_N {o p : Bool} {ss : List (List Nat)} (h : okC ss) : oEq (.lst o (encN ss)) (.lst p []) = some (.bl (decide (ss = []))) := by
  simp only [oEq, show ([] : List Val) = encN [] from rfl, eqB_N h okC_nil, Option.map_some]
theorem nm8_okC {ss : List (List Nat)} (h : ∀ s ∈ ss, nm8 s) : okC ss := fun s hs c hc => abc_lt ((h s hs).2.2 c hc)
/-! ### lists of names are changed -/
theorem gInsert_N {ss : List (List Nat)} {i : Int} {s : List Nat} (h0 : 0 ≤ i) (h1 : i ≤ ss.length) (h2 : ss.length < 16777216) : gInsert (encN ss) [.int i, .str (S s)] = some (.non, encN (ss.take i.toNat ++ [s] ++ ss.drop i.toNat)) := by
  simp only [gInsert, encN_len, sizeLine_eq]
  rw [if_pos ⟨h2, h0, ltA_of (by omega)⟩]
  simp only [encN, List.map_append, List.map_take, List.map_drop, List.map_cons, List.map_nil]
theorem gAppend_N {ss : List (List Nat)} {s : List Nat} (h2 : ss.length < 16777216) : gAppend (encN ss) [.str (S s)] = some (.non, encN (ss ++ [s])) := by
  simp only [gAppend, encN_len, sizeLine_eq, encN_app]
  rw [if_pos h2]; rfl
theorem gPop_N {ss : List (List Nat)} {i : Nat} (h1 : i < ss.length) (h2 : ss.length < 16777216) : gPop (encN ss) [.int i] = some (.str (S ss[i]), encN (ss.eraseIdx i)) := by
  have e1 : seqIndex? (i : Int) (encN ss).length = some i := (ixN_seq (by rw [encN_len]; unfold ixN; rw [if_pos (by omega), if_pos (by omega)]; simp)).1
  have e2 : (encN ss)[i]? = some (.str (S ss[i])) := by rw [encN, List.getElem?_map, List.getElem?_eq_getElem h1]; rfl
  simp only [gPop]
  rw [if_pos (ltA_of (by omega)), e1]
  simp only [e2, Option.map_some]
  simp only [encN, erase_map]
theorem putW_N {ss : List (List Nat)} {i : Nat} {s : List Nat} (h1 : i < ss.length) : putW (.lst true (encN ss)) (.int i) (.str (S s)) = some (.lst true (encN (ss.set i s))) := by
  have e1 : ixN (encN ss).length (i : Int) = some i := by rw [encN_len]; unfold ixN; rw [if_pos (by omega), if_pos (by omega)]; simp
  simp only [putW, e1, Option.map_some]
  simp only [encN, List.map_set]
/-! ### rooms -/
def okAt (ss : List (List Nat)) (i : Nat) : Bool := isNm (ss.getD i []) && (decide (i = 0) || decide (ss.getD (i - 1) [] < ss.getD i []))
def isRm (ss : List (List Nat)) : Bool := decide (ss.length ≤ 6) && (List.range ss.length).all (okAt ss)
theorem callP_name {s : List Nat} (h : s.length ≤ 16777216) : callP m_is_name [.str (S s)] = some (.bl (isNm s)) := by
  simp only [callP, sSeq_ap, sNil_ap, sIf_ap, sSet_ap, sRet_ap, sRetN_ap, sDrop_ap, sAsg_ap, sFor_ap, sAug_ap, sAugL_ap, sPut_ap, mT_ap, mTest_ap, mF_ap, mP_ap, mMove_ap, mFrz_ap, mFz_ap, sRaiseI_ap, mOp2_ap, mOp1_ap, mOpS_ap, mIx_ap, mIxL_ap, mIte_ap, mNot_ap, mAnd_ap, mOr_ap, mAndV_ap, mOrV_ap, msNil_ap, msCons_ap, psNil_ap, psCons_ap, pVar_ap, pC_ap, pOp1_ap, pOp2_ap, pOpS_ap, pTest_ap, pNot_ap, pAnd_ap, pOr_ap, pVal_ap, pAndV_ap, pOrV_ap, pIte_ap, pChain_ap, pNo_ap, poNone_ap, poSome_ap, pSl_ap, pSeq_ap, mSeq_ap, pRng_ap, mRng_ap, pComp_ap, mComp_ap, pYes_ap, pMet_ap, mMet_ap, mMeth_ap, pIsi_ap, pGet2_ap, aNil_ap, aSlot_ap, aVal_ap, mCallIO_ap, mCall_ap, mCallP_ap, mCallPB_ap, oIsN_ap, oNotN_ap, oAdd_int, oSub_int, ipAdd_int, ipSub_int, oLt_int, oLe_int, oGt_int, oGe_int, oLt_str, oLe_str, oGt_str, oGe_str, oEq_int, oNe_int, oEq_bl, oNeg_int, oSubs_lst, oSubs_tup, oIx_lst, oIx_tup, oLen_lst, oLen_tup, oIn_str, oNotIn_str, seqOf_str, seqOf_tup, seqOf_lst, startS, RS.seq_nx, RS.seq_ret, RS.seq_brk, RS.seq_ct, RS.seq_err, RS.seq_bad, L2.DL.R.bind_ok, L2.DL.R.bind_err, L2.DL.R.bind_bad, rS_ok, rS_err, rS_bad, Option.bind_some, Option.bind_none, Option.map_some, Option.map_none, Option.join_some, gN, noOwn, noOwns, noObj, noObjs, noSh, noShs, frz, frzs, List.map_cons, List.map_nil, List.getElem?_cons_zero, List.getElem?_cons_succ, List.set_cons_zero, List.set_cons_succ, List.length_cons, List.length_nil, List.cons_append, List.nil_append, List.replicate, setS_nil, setS_cons, gsNil, gsCons, gTn, Bool.and_true, Bool.true_and, Bool.and_false, Bool.false_and, Bool.or_true, Bool.true_or, Bool.or_false, Bool.false_or, Bool.not_true, Bool.not_false, Bool.and_self, if_true, if_false, Bool.false_eq_true, reduceIte, decide_true, decide_false, callIO, callPB, gatherA, backA, List.take_succ_cons, List.take_zero, atI0, atI1, atI2, atI3, Nat.reduceAdd, Nat.reduceSub, Int.reduceLT, Int.reduceLE, Int.reduceNeg, Int.reduceAdd, Int.reduceSub, Int.reduceMul, Nat.reduceLT, Nat.reduceLeDiff, Int.reduceEq, Int.reduceBEq, name_spec h]
theorem getD_at {ss : List (List Nat)} {i : Nat} (h : i < ss.length) : atI (encN ss) (i : Int) = some (.str (S (ss.getD i []))) := by
  rw [atI_N h, List.getD_eq_getElem?_getD, List.getElem?_eq_getElem h]; rfl
theorem getD_mem {ss : List (List Nat)} {i : Nat} (h : i < ss.length) : ss.getD i [] ∈ ss := by
  rw [List.getD_eq_getElem?_getD, List.getElem?_eq_getElem h]; exact List.getElem_mem _
theorem room_loop {ss : List (List Nat)} (hs : ∀ s ∈ ss, s.length ≤ 16777216) : ∀ (ks : List Nat) (x : Option Val), (∀ k ∈ ks, k < ss.length) →
    ∃ x', forL [1] gN l1_is_room (ks.map fun k : Nat => Val.int (k : Int)) [some (.tup (encN ss)), x] = if ks.all (okAt ss) = true then .nx [some (.tup (encN ss)), x'] else .ret (.bl false) [some (.tup (encN ss)), x']
  | [], x, _ => ⟨x, rfl⟩
  | k :: ks, x, hk => by
    have h1 := hk k List.mem_cons_self
    have e1 := getD_at h1
    have e2 := callP_name (hs _ (getD_mem h1))
    obtain ⟨x', ih⟩ := room_loop hs ks (some (.int k)) fun k h => hk k (List.mem_cons_of_mem _ h)
    rw [List.map_cons, forL]
    cases q1 : isNm (ss.getD k []) with
    | false =>
      have q : okAt ss k = false := by simp only [okAt, q1, Bool.false_and]
      simp only [sSeq_ap, sNil_ap, sIf_ap, sSet_ap, sRet_ap, sRetN_ap, sDrop_ap, sAsg_ap, sFor_ap, sAug_ap, sAugL_ap, sPut_ap, mT_ap, mTest_ap, mF_ap, mP_ap, mMove_ap, mFrz_ap, mFz_ap, sRaiseI_ap, mOp2_ap, mOp1_ap, mOpS_ap, mIx_ap, mIxL_ap, mIte_ap, mNot_ap, mAnd_ap, mOr_ap, mAndV_ap, mOrV_ap, msNil_ap, msCons_ap, psNil_ap, psCons_ap, pVar_ap, pC_ap, pOp1_ap, pOp2_ap, pOpS_ap, pTest_ap, pNot_ap, pAnd_ap, pOr_ap, pVal_ap, pAndV_ap, pOrV_ap, pIte_ap, pChain_ap, pNo_ap, poNone_ap, poSome_ap, pSl_ap, pSeq_ap, mSeq_ap, pRng_ap, mRng_ap, pComp_ap, mComp_ap, pYes_ap, pMet_ap, mMet_ap, mMeth_ap, pIsi_ap, pGet2_ap, aNil_ap, aSlot_ap, aVal_ap, mCallIO_ap, mCall_ap, mCallP_ap, mCallPB_ap, oIsN_ap, oNotN_ap, oAdd_int, oSub_int, ipAdd_int, ipSub_int, oLt_int, oLe_int, oGt_int, oGe_int, oLt_str, oLe_str, oGt_str, oGe_str, oEq_int, oNe_int, oEq_bl, oNeg_int, oSubs_lst, oSubs_tup, oIx_lst, oIx_tup, oLen_lst, oLen_tup, oIn_str, oNotIn_str, seqOf_str, seqOf_tup, seqOf_lst, startS, RS.seq_nx, RS.seq_ret, RS.seq_brk, RS.seq_ct, RS.seq_err, RS.seq_bad, L2.DL.R.bind_ok, L2.DL.R.bind_err, L2.DL.R.bind_bad, rS_ok, rS_err, rS_bad, Option.bind_some, Option.bind_none, Option.map_some, Option.map_none, Option.join_some, gN, noOwn, noOwns, noObj, noObjs, noSh, noShs, frz, frzs, List.map_cons, List.map_nil, List.getElem?_cons_zero, List.getElem?_cons_succ, List.set_cons_zero, List.set_cons_succ, List.length_cons, List.length_nil, List.cons_append, List.nil_append, List.replicate, setS_nil, setS_cons, gsNil, gsCons, gTn, Bool.and_true, Bool.true_and, Bool.and_false, Bool.false_and, Bool.or_true, Bool.true_or, Bool.or_false, Bool.false_or, Bool.not_true, Bool.not_false, Bool.and_self, if_true, if_false, Bool.false_eq_true, reduceIte, decide_true, decide_false, callIO, callPB, gatherA, backA, List.take_succ_cons, List.take_zero, atI0, atI1, atI2, atI3, Nat.reduceAdd, Nat.reduceSub, Int.reduceLT, Int.reduceLE, Int.reduceNeg, Int.reduceAdd, Int.reduceSub, Int.reduceMul, Nat.reduceLT, Nat.reduceLeDiff, Int.reduceEq, Int.reduceBEq, l1_is_room, e1, e2, q1, List.all_cons, q]
      exact ⟨_, rfl⟩
    | true =>
      by_cases hk0 : k = 0
      · subst hk0
        have e1 : atI (encN ss) 0 = some (.str (S (ss.getD 0 []))) := e1
        have q : okAt ss 0 = true := by simp only [okAt, q1, decide_true, Bool.true_or, Bool.and_self]
        refine ⟨x', ?_⟩
        simp only [sSeq_ap, sNil_ap, sIf_ap, sSet_ap, sRet_ap, sRetN_ap, sDrop_ap, sAsg_ap, sFor_ap, sAug_ap, sAugL_ap, sPut_ap, mT_ap, mTest_ap, mF_ap, mP_ap, mMove_ap, mFrz_ap, mFz_ap, sRaiseI_ap, mOp2_ap, mOp1_ap, mOpS_ap, mIx_ap, mIxL_ap, mIte_ap, mNot_ap, mAnd_ap, mOr_ap, mAndV_ap, mOrV_ap, msNil_ap, msCons_ap, psNil_ap, psCons_ap, pVar_ap, pC_ap, pOp1_ap, pOp2_ap, pOpS_ap, pTest_ap, pNot_ap, pAnd_ap, pOr_ap, pVal_ap, pAndV_ap, pOrV_ap, pIte_ap, pChain_ap, pNo_ap, poNone_ap, poSome_ap, pSl_ap, pSeq_ap, mSeq_ap, pRng_ap, mRng_ap, pComp_ap, mComp_ap, pYes_ap, pMet_ap, mMet_ap, mMeth_ap, pIsi_ap, pGet2_ap, aNil_ap, aSlot_ap, aVal_ap, mCallIO_ap, mCall_ap, mCallP_ap, mCallPB_ap, oIsN_ap, oNotN_ap, oAdd_int, oSub_int, ipAdd_int, ipSub_int, oLt_int, oLe_int, oGt_int, oGe_int, oLt_str, oLe_str, oGt_str, oGe_str, oEq_int, oNe_int, oEq_bl, oNeg_int, oSubs_lst, oSubs_tup, oIx_lst, oIx_tup, oLen_lst, oLen_tup, oIn_str, oNotIn_str, seqOf_str, seqOf_tup, seqOf_lst, startS, RS.seq_nx, RS.seq_ret, RS.seq_brk, RS.seq_ct, RS.seq_err, RS.seq_bad, L2.DL.R.bind_ok, L2.DL.R.bind_err, L2.DL.R.bind_bad, rS_ok, rS_err, rS_bad, Option.bind_some, Option.bind_none, Option.map_some, Option.map_none, Option.join_some, gN, noOwn, noOwns, noObj, noObjs, noSh, noShs, frz, frzs, List.map_cons, List.map_nil, List.getElem?_cons_zero, List.getElem?_cons_succ, List.set_cons_zero, List.set_cons_succ, List.length_cons, List.length_nil, List.cons_append, List.nil_append, List.replicate, setS_nil, setS_cons, gsNil, gsCons, gTn, Bool.and_true, Bool.true_and, Bool.and_false, Bool.false_and, Bool.or_true, Bool.true_or, Bool.or_false, Bool.false_or, Bool.not_true, Bool.not_false, Bool.and_self, if_true, if_false, Bool.false_eq_true, reduceIte, decide_true, decide_false, callIO, callPB, gatherA, backA, List.take_succ_cons, List.take_zero, atI0, atI1, atI2, atI3, Nat.reduceAdd, Nat.reduceSub, Int.reduceLT, Int.reduceLE, Int.reduceNeg, Int.reduceAdd, Int.reduceSub, Int.reduceMul, Nat.reduceLT, Nat.reduceLeDiff, Int.reduceEq, Int.reduceBEq, l1_is_room, e1, e2, q1, List.all_cons, q, Int.natCast_zero, Int.lt_irrefl]
        simp only [Int.natCast_zero] at ih
        exact ih
      · have e3 : atI (encN ss) ((k : Int) - 1) = some (.str (S (ss.getD (k - 1) []))) := by
          have := getD_at (ss := ss) (i := k - 1) (by omega)
          rwa [show ((k - 1 : Nat) : Int) = (k : Int) - 1 by omega] at this
        have hp : (0 : Int) < k := by omega
        by_cases hlt : ss.getD (k - 1) [] < ss.getD k []
        · have q : okAt ss k = true := by simp only [okAt, q1, hlt, decide_true, Bool.or_true, Bool.and_self]
          refine ⟨x', ?_⟩
          simp only [sSeq_ap, sNil_ap, sIf_ap, sSet_ap, sRet_ap, sRetN_ap, sDrop_ap, sAsg_ap, sFor_ap, sAug_ap, sAugL_ap, sPut_ap, mT_ap, mTest_ap, mF_ap, mP_ap, mMove_ap, mFrz_ap, mFz_ap, sRaiseI_ap, mOp2_ap, mOp1_ap, mOpS_ap, mIx_ap, mIxL_ap, mIte_ap, mNot_ap, mAnd_ap, mOr_ap, mAndV_ap, mOrV_ap, msNil_ap, msCons_ap, psNil_ap, psCons_ap, pVar_ap, pC_ap, pOp1_ap, pOp2_ap, pOpS_ap, pTest_ap, pNot_ap, pAnd_ap, pOr_ap, pVal_ap, pAndV_ap, pOrV_ap, pIte_ap, pChain_ap, pNo_ap, poNone_ap, poSome_ap, pSl_ap, pSeq_ap, mSeq_ap, pRng_ap, mRng_ap, pComp_ap, mComp_ap, pYes_ap, pMet_ap, mMet_ap, mMeth_ap, pIsi_ap, pGet2_ap, aNil_ap, aSlot_ap, aVal_ap, mCallIO_ap, mCall_ap, mCallP_ap, mCallPB_ap, oIsN_ap, oNotN_ap, oAdd_int, oSub_int, ipAdd_int, ipSub_int, oLt_int, oLe_int, oGt_int, oGe_int, oLt_str, oLe_str, oGt_str, oGe_str, oEq_int, oNe_int, oEq_bl, oNeg_int, oSubs_lst, oSubs_tup, oIx_lst, oIx_tup, oLen_lst, oLen_tup, oIn_str, oNotIn_str, seqOf_str, seqOf_tup, seqOf_lst, startS, RS.seq_nx, RS.seq_ret, RS.seq_brk, RS.seq_ct, RS.seq_err, RS.seq_bad, L2.DL.R.bind_ok, L2.DL.R.bind_err, L2.DL.R.bind_bad, rS_ok, rS_err, rS_bad, Option.bind_some, Option.bind_none, Option.map_some, Option.map_none, Option.join_some, gN, noOwn, noOwns, noObj, noObjs, noSh, noShs, frz, frzs, List.map_cons, List.map_nil, List.getElem?_cons_zero, List.getElem?_cons_succ, List.set_cons_zero, List.set_cons_succ, List.length_cons, List.length_nil, List.cons_append, List.nil_append, List.replicate, setS_nil, setS_cons, gsNil, gsCons, gTn, Bool.and_true, Bool.true_and, Bool.and_false, Bool.false_and, Bool.or_true, Bool.true_or, Bool.or_false, Bool.false_or, Bool.not_true, Bool.not_false, Bool.and_self, if_true, if_false, Bool.false_eq_true, reduceIte, decide_true, decide_false, callIO, callPB, gatherA, backA, List.take_succ_cons, List.take_zero, atI0, atI1, atI2, atI3, Nat.reduceAdd, Nat.reduceSub, Int.reduceLT, Int.reduceLE, Int.reduceNeg, Int.reduceAdd, Int.reduceSub, Int.reduceMul, Nat.reduceLT, Nat.reduceLeDiff, Int.reduceEq, Int.reduceBEq, l1_is_room, e1, e2, e3, hp, q1, hlt, List.all_cons, q]
          exact ih
        · have q : okAt ss k = false := by simp only [okAt, hlt, decide_false, hk0, Bool.or_self, Bool.and_false]
          simp only [sSeq_ap, sNil_ap, sIf_ap, sSet_ap, sRet_ap, sRetN_ap, sDrop_ap, sAsg_ap, sFor_ap, sAug_ap, sAugL_ap, sPut_ap, mT_ap, mTest_ap, mF_ap, mP_ap, mMove_ap, mFrz_ap, mFz_ap, sRaiseI_ap, mOp2_ap, mOp1_ap, mOpS_ap, mIx_ap, mIxL_ap, mIte_ap, mNot_ap, mAnd_ap, mOr_ap, mAndV_ap, mOrV_ap, msNil_ap, msCons_ap, psNil_ap, psCons_ap, pVar_ap, pC_ap, pOp1_ap, pOp2_ap, pOpS_ap, pTest_ap, pNot_ap, pAnd_ap, pOr_ap, pVal_ap, pAndV_ap, pOrV_ap, pIte_ap, pChain_ap, pNo_ap, poNone_ap, poSome_ap, pSl_ap, pSeq_ap, mSeq_ap, pRng_ap, mRng_ap, pComp_ap, mComp_ap, pYes_ap, pMet_ap, mMet_ap, mMeth_ap, pIsi_ap, pGet2_ap, aNil_ap, aSlot_ap, aVal_ap, mCallIO_ap, mCall_ap, mCallP_ap, mCallPB_ap, oIsN_ap, oNotN_ap, oAdd_int, oSub_int, ipAdd_int, ipSub_int, oLt_int, oLe_int, oGt_int, oGe_int, oLt_str, oLe_str, oGt_str, oGe_str, oEq_int, oNe_int, oEq_bl, oNeg_int, oSubs_lst, oSubs_tup, oIx_lst, oIx_tup, oLen_lst, oLen_tup, oIn_str, oNotIn_str, seqOf_str, seqOf_tup, seqOf_lst, startS, RS.seq_nx, RS.seq_ret, RS.seq_brk, RS.seq_ct, RS.seq_err, RS.seq_bad, L2.DL.R.bind_ok, L2.DL.R.bind_err, L2.DL.R.bind_bad, rS_ok, rS_err, rS_bad, Option.bind_some, Option.bind_none, Option.map_some, Option.map_none, Option.join_some, gN, noOwn, noOwns, noObj, noObjs, noSh, noShs, frz, frzs, List.map_cons, List.map_nil, List.getElem?_cons_zero, List.getElem?_cons_succ, List.set_cons_zero, List.set_cons_succ, List.length_cons, List.length_nil, List.cons_append, List.nil_append, List.replicate, setS_nil, setS_cons, gsNil, gsCons, gTn, Bool.and_true, Bool.true_and, Bool.and_false, Bool.false_and, Bool.or_true, Bool.true_or, Bool.or_false, Bool.false_or, Bool.not_true, Bool.not_false, Bool.and_self, if_true, if_false, Bool.false_eq_true, reduceIte, decide_true, decide_false, callIO, callPB, gatherA, backA, List.take_succ_cons, List.take_zero, atI0, atI1, atI2, atI3, Nat.reduceAdd, Nat.reduceSub, Int.reduceLT, Int.reduceLE, Int.reduceNeg, Int.reduceAdd, Int.reduceSub, Int.reduceMul, Nat.reduceLT, Nat.reduceLeDiff, Int.reduceEq, Int.reduceBEq, l1_is_room, e1, e2, e3, hp, q1, hlt, List.all_cons, q]
          exact ⟨_, rfl⟩
theorem rng_nat (n : Nat) : rng 0 (n : Int) = (List.range n).map fun k : Nat => Val.int (k : Int) := by
  simp only [rng, Int.sub_zero, Int.toNat_natCast, Int.zero_add]
theorem room_spec {ss : List (List Nat)} (hs : ∀ s ∈ ss, s.length ≤ 16777216) (hl : ss.length ≤ 16777216) : m_is_room [.tup (encN ss)] = .ok (.bl (isRm ss)) := by
  unfold m_is_room fnP g_is_room
  by_cases h6 : ss.length ≤ 6
  · have a1 : ¬ (6 : Int) < ss.length := by omega
    have r1 := rngOf_one (j := ss.length) (by omega) (by omega)
    obtain ⟨x', e⟩ := room_loop hs (List.range ss.length) none fun k h => List.mem_range.mp h
    simp only [sSeq_ap, sNil_ap, sIf_ap, sSet_ap, sRet_ap, sRetN_ap, sDrop_ap, sAsg_ap, sFor_ap, sAug_ap, sAugL_ap, sPut_ap, mT_ap, mTest_ap, mF_ap, mP_ap, mMove_ap, mFrz_ap, mFz_ap, sRaiseI_ap, mOp2_ap, mOp1_ap, mOpS_ap, mIx_ap, mIxL_ap, mIte_ap, mNot_ap, mAnd_ap, mOr_ap, mAndV_ap, mOrV_ap, msNil_ap, msCons_ap, psNil_ap, psCons_ap, pVar_ap, pC_ap, pOp1_ap, pOp2_ap, pOpS_ap, pTest_ap, pNot_ap, pAnd_ap, pOr_ap, pVal_ap, pAndV_ap, pOrV_ap, pIte_ap, pChain_ap, pNo_ap, poNone_ap, poSome_ap, pSl_ap, pSeq_ap, mSeq_ap, pRng_ap, mRng_ap, pComp_ap, mComp_ap, pYes_ap, pMet_ap, mMet_ap, mMeth_ap, pIsi_ap, pGet2_ap, aNil_ap, aSlot_ap, aVal_ap, mCallIO_ap, mCall_ap, mCallP_ap, mCallPB_ap, oIsN_ap, oNotN_ap, oAdd_int, oSub_int, ipAdd_int, ipSub_int, oLt_int, oLe_int, oGt_int, oGe_int, oLt_str, oLe_str, oGt_str, oGe_str, oEq_int, oNe_int, oEq_bl, oNeg_int, oSubs_lst, oSubs_tup, oIx_lst, oIx_tup, oLen_lst, oLen_tup, oIn_str, oNotIn_str, seqOf_str, seqOf_tup, seqOf_lst, startS, RS.seq_nx, RS.seq_ret, RS.seq_brk, RS.seq_ct, RS.seq_err, RS.seq_bad, L2.DL.R.bind_ok, L2.DL.R.bind_err, L2.DL.R.bind_bad, rS_ok, rS_err, rS_bad, Option.bind_some, Option.bind_none, Option.map_some, Option.map_none, Option.join_some, gN, noOwn, noOwns, noObj, noObjs, noSh, noShs, frz, frzs, List.map_cons, List.map_nil, List.getElem?_cons_zero, List.getElem?_cons_succ, List.set_cons_zero, List.set_cons_succ, List.length_cons, List.length_nil, List.cons_append, List.nil_append, List.replicate, setS_nil, setS_cons, gsNil, gsCons, gTn, Bool.and_true, Bool.true_and, Bool.and_false, Bool.false_and, Bool.or_true, Bool.true_or, Bool.or_false, Bool.false_or, Bool.not_true, Bool.not_false, Bool.and_self, if_true, if_false, Bool.false_eq_true, reduceIte, decide_true, decide_false, callIO, callPB, gatherA, backA, List.take_succ_cons, List.take_zero, atI0, atI1, atI2, atI3, Nat.reduceAdd, Nat.reduceSub, Int.reduceLT, Int.reduceLE, Int.reduceNeg, Int.reduceAdd, Int.reduceSub, Int.reduceMul, Nat.reduceLT, Nat.reduceLeDiff, Int.reduceEq, Int.reduceBEq, encN_len, a1, r1, rng_nat, e, isRm, h6]
    cases (List.range ss.length).all (okAt ss) <;> simp only [sSeq_ap, sNil_ap, sIf_ap, sSet_ap, sRet_ap, sRetN_ap, sDrop_ap, sAsg_ap, sFor_ap, sAug_ap, sAugL_ap, sPut_ap, mT_ap, mTest_ap, mF_ap, mP_ap, mMove_ap, mFrz_ap, mFz_ap, sRaiseI_ap, mOp2_ap, mOp1_ap, mOpS_ap, mIx_ap, mIxL_ap, mIte_ap, mNot_ap, mAnd_ap, mOr_ap, mAndV_ap, mOrV_ap, msNil_ap, msCons_ap, psNil_ap, psCons_ap, pVar_ap, pC_ap, pOp1_ap, pOp2_ap, pOpS_ap, pTest_ap, pNot_ap, pAnd_ap, pOr_ap, pVal_ap, pAndV_ap, pOrV_ap, pIte_ap, pChain_ap, pNo_ap, poNone_ap, poSome_ap, pSl_ap, pSeq_ap, mSeq_ap, pRng_ap, mRng_ap, pComp_ap, mComp_ap, pYes_ap, pMet_ap, mMet_ap, mMeth_ap, pIsi_ap, pGet2_ap, aNil_ap, aSlot_ap, aVal_ap, mCallIO_ap, mCall_ap, mCallP_ap, mCallPB_ap, oIsN_ap, oNotN_ap, oAdd_int, oSub_int, ipAdd_int, ipSub_int, oLt_int, oLe_int, oGt_int, oGe_int, oLt_str, oLe_str, oGt_str, oGe_str, oEq_int, oNe_int, oEq_bl, oNeg_int, oSubs_lst, oSubs_tup, oIx_lst, oIx_tup, oLen_lst, oLen_tup, oIn_str, oNotIn_str, seqOf_str, seqOf_tup, seqOf_lst, startS, RS.seq_nx, RS.seq_ret, RS.seq_brk, RS.seq_ct, RS.seq_err, RS.seq_bad, L2.DL.R.bind_ok, L2.DL.R.bind_err, L2.DL.R.bind_bad, rS_ok, rS_err, rS_bad, Option.bind_some, Option.bind_none, Option.map_some, Option.map_none, Option.join_some, gN, noOwn, noOwns, noObj, noObjs, noSh, noShs, frz, frzs, List.map_cons, List.map_nil, List.getElem?_cons_zero, List.getElem?_cons_succ, List.set_cons_zero, List.set_cons_succ, List.length_cons, List.length_nil, List.cons_append, List.nil_append, List.replicate, setS_nil, setS_cons, gsNil, gsCons, gTn, Bool.and_true, Bool.true_and, Bool.and_false, Bool.false_and, Bool.or_true, Bool.true_or, Bool.or_false, Bool.false_or, Bool.not_true, Bool.not_false, Bool.and_self, if_true, if_false, Bool.false_eq_true, reduceIte, decide_true, decide_false, callIO, callPB, gatherA, backA, List.take_succ_cons, List.take_zero, atI0, atI1, atI2, atI3, Nat.reduceAdd, Nat.reduceSub, Int.reduceLT, Int.reduceLE, Int.reduceNeg, Int.reduceAdd, Int.reduceSub, Int.reduceMul, Nat.reduceLT, Nat.reduceLeDiff, Int.reduceEq, Int.reduceBEq]
  · have a1 : (6 : Int) < ss.length := by omega
    simp only [sSeq_ap, sNil_ap, sIf_ap, sSet_ap, sRet_ap, sRetN_ap, sDrop_ap, sAsg_ap, sFor_ap, sAug_ap, sAugL_ap, sPut_ap, mT_ap, mTest_ap, mF_ap, mP_ap, mMove_ap, mFrz_ap, mFz_ap, sRaiseI_ap, mOp2_ap, mOp1_ap, mOpS_ap, mIx_ap, mIxL_ap, mIte_ap, mNot_ap, mAnd_ap, mOr_ap, mAndV_ap, mOrV_ap, msNil_ap, msCons_ap, psNil_ap, psCons_ap, pVar_ap, pC_ap, pOp1_ap, pOp2_ap, pOpS_ap, pTest_ap, pNot_ap, pAnd_ap, pOr_ap, pVal_ap, pAndV_ap, pOrV_ap, pIte_ap, pChain_ap, pNo_ap, poNone_ap, poSome_ap, pSl_ap, pSeq_ap, mSeq_ap, pRng_ap, mRng_ap, pComp_ap, mComp_ap, pYes_ap, pMet_ap, mMet_ap, mMeth_ap, pIsi_ap, pGet2_ap, aNil_ap, aSlot_ap, aVal_ap, mCallIO_ap, mCall_ap, mCallP_ap, mCallPB_ap, oIsN_ap, oNotN_ap, oAdd_int, oSub_int, ipAdd_int, ipSub_int, oLt_int, oLe_int, oGt_int, oGe_int, oLt_str, oLe_str, oGt_str, oGe_str, oEq_int, oNe_int, oEq_bl, oNeg_int, oSubs_lst, oSubs_tup, oIx_lst, oIx_tup, oLen_lst, oLen_tup, oIn_str, oNotIn_str, seqOf_str, seqOf_tup, seqOf_lst, startS, RS.seq_nx, RS.seq_ret, RS.seq_brk, RS.seq_ct, RS.seq_err, RS.seq_bad, L2.DL.R.bind_ok, L2.DL.R.bind_err, L2.DL.R.bind_bad, rS_ok, rS_err, rS_bad, Option.bind_some, Option.bind_none, Option.map_some, Option.map_none, Option.join_some, gN, noOwn, noOwns, noObj, noObjs, noSh, noShs, frz, frzs, List.map_cons, List.map_nil, List.getElem?_cons_zero, List.getElem?_cons_succ, List.set_cons_zero, List.set_cons_succ, List.length_cons, List.length_nil, List.cons_append, List.nil_append, List.replicate, setS_nil, setS_cons, gsNil, gsCons, gTn, Bool.and_true, Bool.true_and, Bool.and_false, Bool.false_and, Bool.or_true, Bool.true_or, Bool.or_false, Bool.false_or, Bool.not_true, Bool.not_false, Bool.and_self, if_true, if_false, Bool.false_eq_true, reduceIte, decide_true, decide_false, callIO, callPB, gatherA, backA, List.take_succ_cons, List.take_zero, atI0, atI1, atI2, atI3, Nat.reduceAdd, Nat.reduceSub, Int.reduceLT, Int.reduceLE, Int.reduceNeg, Int.reduceAdd, Int.reduceSub, Int.reduceMul, Nat.reduceLT, Nat.reduceLeDiff, Int.reduceEq, Int.reduceBEq, encN_len, a1, isRm, h6]
end RT

namespace RT
open L2 PyProof.Rows PySem.Spec PySem L2.DL SX
/-! ### lists of whole numbers -/
def encI (l : List Int) : List Val := l.map .int
theorem encI_cons (s : Int) (ss : List Int) : encI (s :: ss) = .int s :: encI ss := rfl
theorem encI_app (ss tt : List Int) : encI (ss ++ tt) = encI ss ++ encI tt := List.map_append
theorem encI_len (ss : List Int) : (encI ss).length = ss.length := List.length_map _
theorem noOwns_I (ss : List Int) : noOwns (encI ss) = true := noOwns_ints ss
theorem noShs_I (ss : List Int) : noShs (encI ss) = true := noShs_of fun w h => by
  obtain ⟨x, _, rfl⟩ := List.mem_map.mp h; rfl
theorem noObjs_I (ss : List Int) : noObjs (encI ss) = true := noObjs_of fun w h => by
  obtain ⟨x, _, rfl⟩ := List.mem_map.mp h; rfl
theorem frzs_I : ∀ ss : List Int, frzs (encI ss) = encI ss
  | [] => rfl
  | s :: ss => by rw [encI_cons, frzs, frz, frzs_I ss]
theorem atI_I {ss : List Int} {i : Nat} (h : i < ss.length) : atI (encI ss) (i : Int) = some (.int ss[i]) := by
  refine atI_nat ?_
  rw [encI, List.getElem?_map, List.getElem?_eq_getElem h]; rfl
theorem toPys_I : ∀ ss : List Int, toPys (encI ss) = some (ss.map .int)
  | [] => rfl
  | s :: ss => by rw [encI_cons]; simp only [toPys, toPy, toPys_I ss, Option.bind_some, Option.map_some, List.map_cons]
theorem canLay_I : ∀ ss : List Int, PyData.canLayAll0 (ss.map .int) = true
  | [] => rfl
  | s :: ss => by simp only [List.map_cons, PyData.canLayAll0, PyData.canLay0, canLay_I ss, Bool.and_self]
theorem depth_I : ∀ ss : List Int, PyData.depthAll (ss.map .int) = 0
  | [] => rfl
  | s :: ss => by simp only [List.map_cons, PyData.depthAll, PyData.depth, depth_I ss, Nat.max_self]
theorem eqvAll_I : ∀ ss tt : List Int, PyData.eqvAll (ss.map .int) (tt.map .int) = decide (ss = tt)
  | [], [] => rfl
  | [], _ :: _ => rfl
  | _ :: _, [] => rfl
  | s :: ss, t :: tt => by
    simp only [List.map_cons, PyData.eqvAll, PyData.eqv, eqvAll_I ss tt, List.cons.injEq]
    by_cases h1 : s = t <;> by_cases h2 : ss = tt <;> simp [h1, h2]
theorem shaped_I (ss : List Int) : SeqAt.shaped (.list (ss.map .int)) = true := by
  simp only [SeqAt.shaped, PyData.canLay0, canLay_I, PyData.depth, depth_I, Bool.true_and]
  decide
theorem shaped_It (ss : List Int) : SeqAt.shaped (.tuple (ss.map .int)) = true := by
  simp only [SeqAt.shaped, PyData.canLay0, canLay_I, PyData.depth, depth_I, Bool.true_and]
  decide
theorem eqB_I (o p : Bool) (ss tt : List Int) : eqB (.lst o (encI ss)) (.lst p (encI tt)) = some (decide (ss = tt)) := by
  simp only [eqB, toPy, toPys_I, Option.map_some, Option.bind_some, shaped_I, Bool.and_self, if_true, PyData.eqv, eqvAll_I]
theorem eqB_It (ss tt : List Int) : eqB (.tup (encI ss)) (.tup (encI tt)) = some (decide (ss = tt)) := by
  simp only [eqB, toPy, toPys_I, Option.map_some, Option.bind_some, shaped_It, Bool.and_self, if_true, PyData.eqv, eqvAll_I]
theorem ne_nil_I (o p : Bool) (ss : List Int) : oNe (.lst o (encI ss)) (.lst p []) = some (.bl (!decide (ss = []))) := by
  simp only [oNe, show ([] : List Val) = encI [] from rfl, eqB_I, Option.map_some]
theorem gAppend_I {ss : List Int} {s : Int} (h2 : ss.length < 16777216) : gAppend (encI ss) [.int s] = some (.non, encI (ss ++ [s])) := by
  simp only [gAppend, encI_len, sizeLine_eq, encI_app]
  rw [if_pos h2]; rfl
theorem gPop_I {ss : List Int} {i : Nat} (h1 : i < ss.length) (h2 : ss.length < 16777216) : gPop (encI ss) [.int i] = some (.int ss[i], encI (ss.eraseIdx i)) := by
  have e1 : seqIndex? (i : Int) (encI ss).length = some i := (ixN_seq (by rw [encI_len]; unfold ixN; rw [if_pos (by omega), if_pos (by omega)]; simp)).1
  have e2 : (encI ss)[i]? = some (.int ss[i]) := by rw [encI, List.getElem?_map, List.getElem?_eq_getElem h1]; rfl
  simp only [gPop]
  rw [if_pos (ltA_of (by omega)), e1]
  simp only [e2, Option.map_some]
  simp only [encI, erase_map]
theorem putW_I {ss : List Int} {i : Nat} {s : Int} (h1 : i < ss.length) : putW (.lst true (encI ss)) (.int i) (.int s) = some (.lst true (encI (ss.set i s))) := by
  have e1 : ixN (encI ss).length (i : Int) = some i := by rw [encI_len]; unfold ixN; rw [if_pos (by omega), if_pos (by omega)]; simp
  simp only [putW, e1, Option.map_some]
  simp only [encI, List.map_set]
/-! ### walks that only look -/
theorem compP_filter {α : Type} {is : List Nat} {t : T} {c : P Bool} {f : P Val} {ρ : Slots} (enc φ : α → Val) (p : α → Bool) : ∀ (l : List α), (∀ a ∈ l, ∃ rs, t (enc a) = some rs ∧ c (setS ρ is rs) = some (p a) ∧ (p a = true → f (setS ρ is rs) = some (φ a))) → compP is t c f ρ (l.map enc) = some ((l.filter p).map φ)
  | [], _ => rfl
  | a :: l, h => by
    obtain ⟨rs, e1, e2, e3⟩ := h a List.mem_cons_self
    have ih := compP_filter enc φ p l fun b hb => h b (List.mem_cons_of_mem _ hb)
    rw [List.map_cons, compP]
    simp only [e1, Option.bind_some, e2]
    cases q : p a with
    | true => simp only [if_true, e3 q, Option.bind_some, ih, Option.map_some, List.filter_cons, q, List.map_cons]
    | false => simp only [Bool.false_eq_true, if_false, ih, List.filter_cons, q]
theorem compP_map {α : Type} {is : List Nat} {t : T} {f : P Val} {ρ : Slots} (enc φ : α → Val) (l : List α) (h : ∀ a ∈ l, ∃ rs, t (enc a) = some rs ∧ f (setS ρ is rs) = some (φ a)) : compP is t pYes f ρ (l.map enc) = some (l.map φ) := by
  have := compP_filter (c := pYes) enc φ (fun _ => true) l fun a ha => by
    obtain ⟨rs, e1, e2⟩ := h a ha
    exact ⟨rs, e1, rfl, fun _ => e2⟩
  rw [this, List.filter_eq_self.mpr fun _ _ => rfl]
theorem blsOf_map {α : Type} (p : α → Bool) : ∀ l : List α, blsOf (l.map fun a => .bl (p a)) = some (l.map p)
  | [] => rfl
  | a :: l => by simp only [List.map_cons, blsOf, blsOf_map p l, Option.map_some]
theorem oAll_map {α : Type} (o : Bool) (p : α → Bool) (l : List α) : oAll [.lst o (l.map fun a => .bl (p a))] = some (.bl (l.all p)) := by
  simp only [oAll, blsOf_map, Option.map_some, List.all_map, Function.comp_def, id]
theorem oAny_map {α : Type} (o : Bool) (p : α → Bool) (l : List α) : oAny [.lst o (l.map fun a => .bl (p a))] = some (.bl (l.any p)) := by
  simp only [oAny, blsOf_map, Option.map_some, List.any_map, Function.comp_def, id]
/-! ### rows -/
theorem beq_nat (a b : Nat) : ((a : Int) == (b : Int)) = decide (a = b) := by
  by_cases h : a = b
  · rw [h, decide_eq_true rfl]; exact beq_self_eq_true _
  · rw [decide_eq_false h]; exact beq_eq_false_iff_ne.mpr (by omega)
def in09 (x : Int) : Bool := decide (0 ≤ x ∧ x ≤ 9)
def isRw (n : Nat) (l : List Int) : Bool := decide (l.length = n) && l.all in09
theorem chain09 {ρ : Slots} {f : P Val} {x : Int} (h : f ρ = some (.int x)) : pChain oLe oLe (pC (.int 0)) f (pC (.int 9)) ρ = some (.bl (in09 x)) := by
  by_cases h1 : 0 ≤ x <;> by_cases h2 : x ≤ 9 <;> simp only [sSeq_ap, sNil_ap, sIf_ap, sSet_ap, sRet_ap, sRetN_ap, sDrop_ap, sAsg_ap, sFor_ap, sAug_ap, sAugL_ap, sPut_ap, mT_ap, mTest_ap, mF_ap, mP_ap, mMove_ap, mFrz_ap, mFz_ap, sRaiseI_ap, mOp2_ap, mOp1_ap, mOpS_ap, mIx_ap, mIxL_ap, mIte_ap, mNot_ap, mAnd_ap, mOr_ap, mAndV_ap, mOrV_ap, msNil_ap, msCons_ap, psNil_ap, psCons_ap, pVar_ap, pC_ap, pOp1_ap, pOp2_ap, pOpS_ap, pTest_ap, pNot_ap, pAnd_ap, pOr_ap, pVal_ap, pAndV_ap, pOrV_ap, pIte_ap, pChain_ap, pNo_ap, poNone_ap, poSome_ap, pSl_ap, pSeq_ap, mSeq_ap, pRng_ap, mRng_ap, pComp_ap, mComp_ap, pYes_ap, pMet_ap, mMet_ap, mMeth_ap, pIsi_ap, pGet2_ap, aNil_ap, aSlot_ap, aVal_ap, mCallIO_ap, mCall_ap, mCallP_ap, mCallPB_ap, oIsN_ap, oNotN_ap, oAdd_int, oSub_int, ipAdd_int, ipSub_int, oLt_int, oLe_int, oGt_int, oGe_int, oLt_str, oLe_str, oGt_str, oGe_str, oEq_int, oNe_int, oEq_bl, oNeg_int, oSubs_lst, oSubs_tup, oIx_lst, oIx_tup, oLen_lst, oLen_tup, oIn_str, oNotIn_str, seqOf_str, seqOf_tup, seqOf_lst, startS, RS.seq_nx, RS.seq_ret, RS.seq_brk, RS.seq_ct, RS.seq_err, RS.seq_bad, L2.DL.R.bind_ok, L2.DL.R.bind_err, L2.DL.R.bind_bad, rS_ok, rS_err, rS_bad, Option.bind_some, Option.bind_none, Option.map_some, Option.map_none, Option.join_some, gN, noOwn, noOwns, noObj, noObjs, noSh, noShs, frz, frzs, List.map_cons, List.map_nil, List.getElem?_cons_zero, List.getElem?_cons_succ, List.set_cons_zero, List.set_cons_succ, List.length_cons, List.length_nil, List.cons_append, List.nil_append, List.replicate, setS_nil, setS_cons, gsNil, gsCons, gTn, Bool.and_true, Bool.true_and, Bool.and_false, Bool.false_and, Bool.or_true, Bool.true_or, Bool.or_false, Bool.false_or, Bool.not_true, Bool.not_false, Bool.and_self, if_true, if_false, Bool.false_eq_true, reduceIte, decide_true, decide_false, callIO, callPB, gatherA, backA, List.take_succ_cons, List.take_zero, atI0, atI1, atI2, atI3, Nat.reduceAdd, Nat.reduceSub, Int.reduceLT, Int.reduceLE, Int.reduceNeg, Int.reduceAdd, Int.reduceSub, Int.reduceMul, Nat.reduceLT, Nat.reduceLeDiff, Int.reduceEq, Int.reduceBEq, h, h1, h2, in09, and_self, and_true, true_and, and_false, false_and]
theorem row_loop {a b : Option Val} : ∀ (l : List Int) (x : Option Val), ∃ x', forL [2] gN l1_is_row (encI l) [a, b, x] = if l.all in09 = true then .nx [a, b, x'] else .ret (.bl false) [a, b, x']
  | [], x => ⟨x, rfl⟩
  | k :: l, x => by
    obtain ⟨x', ih⟩ := row_loop (a := a) (b := b) l (some (.int k))
    have ch : pChain oLe oLe (pC (.int 0)) (pVar 2) (pC (.int 9)) [a, b, some (.int k)] = some (.bl (in09 k)) := chain09 rfl
    rw [encI_cons, forL]
    cases q : in09 k with
    | true =>
      rw [q] at ch
      refine ⟨x', ?_⟩
      simp only [gN, noOwns, noOwn, Bool.and_self, if_true, setS_cons, setS_nil, List.set_cons_succ, List.set_cons_zero, l1_is_row, sIf_ap, mT_ap, pNot_ap, pTest_ap, ch, Option.bind_some, Option.map_some, rS_ok, Bool.not_true, Bool.false_eq_true, if_false, sNil_ap, List.all_cons, q, Bool.true_and]
      exact ih
    | false =>
      rw [q] at ch
      refine ⟨some (.int k), ?_⟩
      simp only [gN, noOwns, noOwn, Bool.and_self, if_true, setS_cons, setS_nil, List.set_cons_succ, List.set_cons_zero, l1_is_row, sIf_ap, mT_ap, pNot_ap, pTest_ap, ch, Option.bind_some, Option.map_some, rS_ok, Bool.not_false, sRet_ap, mF_ap, pC_ap, List.all_cons, q, Bool.false_and, Bool.false_eq_true, if_false]
theorem row_spec {ws : List Val} {l : List Int} : m_is_row [.tup ws, .tup (encI l)] = .ok (.bl (isRw ws.length l)) := by
  unfold m_is_row fnP g_is_row
  have ne : oNe (.int (encI l).length) (.int ws.length) = some (.bl (!decide (l.length = ws.length))) := by
    rw [oNe_int, encI_len, beq_nat]
  obtain ⟨x', e⟩ := row_loop (a := some (.tup ws)) (b := some (.tup (encI l))) l none
  by_cases h : l.length = ws.length
  · simp only [h, decide_true] at ne
    simp only [sSeq_ap, sNil_ap, sIf_ap, sSet_ap, sRet_ap, sRetN_ap, sDrop_ap, sAsg_ap, sFor_ap, sAug_ap, sAugL_ap, sPut_ap, mT_ap, mTest_ap, mF_ap, mP_ap, mMove_ap, mFrz_ap, mFz_ap, sRaiseI_ap, mOp2_ap, mOp1_ap, mOpS_ap, mIx_ap, mIxL_ap, mIte_ap, mNot_ap, mAnd_ap, mOr_ap, mAndV_ap, mOrV_ap, msNil_ap, msCons_ap, psNil_ap, psCons_ap, pVar_ap, pC_ap, pOp1_ap, pOp2_ap, pOpS_ap, pTest_ap, pNot_ap, pAnd_ap, pOr_ap, pVal_ap, pAndV_ap, pOrV_ap, pIte_ap, pChain_ap, pNo_ap, poNone_ap, poSome_ap, pSl_ap, pSeq_ap, mSeq_ap, pRng_ap, mRng_ap, pComp_ap, mComp_ap, pYes_ap, pMet_ap, mMet_ap, mMeth_ap, pIsi_ap, pGet2_ap, aNil_ap, aSlot_ap, aVal_ap, mCallIO_ap, mCall_ap, mCallP_ap, mCallPB_ap, oIsN_ap, oNotN_ap, oAdd_int, oSub_int, ipAdd_int, ipSub_int, oLt_int, oLe_int, oGt_int, oGe_int, oLt_str, oLe_str, oGt_str, oGe_str, oEq_int, oNe_int, oEq_bl, oNeg_int, oSubs_lst, oSubs_tup, oIx_lst, oIx_tup, oLen_lst, oLen_tup, oIn_str, oNotIn_str, seqOf_str, seqOf_tup, seqOf_lst, startS, RS.seq_nx, RS.seq_ret, RS.seq_brk, RS.seq_ct, RS.seq_err, RS.seq_bad, L2.DL.R.bind_ok, L2.DL.R.bind_err, L2.DL.R.bind_bad, rS_ok, rS_err, rS_bad, Option.bind_some, Option.bind_none, Option.map_some, Option.map_none, Option.join_some, gN, noOwn, noOwns, noObj, noObjs, noSh, noShs, frz, frzs, List.map_cons, List.map_nil, List.getElem?_cons_zero, List.getElem?_cons_succ, List.set_cons_zero, List.set_cons_succ, List.length_cons, List.length_nil, List.cons_append, List.nil_append, List.replicate, setS_nil, setS_cons, gsNil, gsCons, gTn, Bool.and_true, Bool.true_and, Bool.and_false, Bool.false_and, Bool.or_true, Bool.true_or, Bool.or_false, Bool.false_or, Bool.not_true, Bool.not_false, Bool.and_self, if_true, if_false, Bool.false_eq_true, reduceIte, decide_true, decide_false, callIO, callPB, gatherA, backA, List.take_succ_cons, List.take_zero, atI0, atI1, atI2, atI3, Nat.reduceAdd, Nat.reduceSub, Int.reduceLT, Int.reduceLE, Int.reduceNeg, Int.reduceAdd, Int.reduceSub, Int.reduceMul, Nat.reduceLT, Nat.reduceLeDiff, Int.reduceEq, Int.reduceBEq, ne, noOwns_I, e, isRw, h]
    cases l.all in09 <;> simp only [sSeq_ap, sNil_ap, sIf_ap, sSet_ap, sRet_ap, sRetN_ap, sDrop_ap, sAsg_ap, sFor_ap, sAug_ap, sAugL_ap, sPut_ap, mT_ap, mTest_ap, mF_ap, mP_ap, mMove_ap, mFrz_ap, mFz_ap, sRaiseI_ap, mOp2_ap, mOp1_ap, mOpS_ap, mIx_ap, mIxL_ap, mIte_ap, mNot_ap, mAnd_ap, mOr_ap, mAndV_ap, mOrV_ap, msNil_ap, msCons_ap, psNil_ap, psCons_ap, pVar_ap, pC_ap, pOp1_ap, pOp2_ap, pOpS_ap, pTest_ap, pNot_ap, pAnd_ap, pOr_ap, pVal_ap, pAndV_ap, pOrV_ap, pIte_ap, pChain_ap, pNo_ap, poNone_ap, poSome_ap, pSl_ap, pSeq_ap, mSeq_ap, pRng_ap, mRng_ap, pComp_ap, mComp_ap, pYes_ap, pMet_ap, mMet_ap, mMeth_ap, pIsi_ap, pGet2_ap, aNil_ap, aSlot_ap, aVal_ap, mCallIO_ap, mCall_ap, mCallP_ap, mCallPB_ap, oIsN_ap, oNotN_ap, oAdd_int, oSub_int, ipAdd_int, ipSub_int, oLt_int, oLe_int, oGt_int, oGe_int, oLt_str, oLe_str, oGt_str, oGe_str, oEq_int, oNe_int, oEq_bl, oNeg_int, oSubs_lst, oSubs_tup, oIx_lst, oIx_tup, oLen_lst, oLen_tup, oIn_str, oNotIn_str, seqOf_str, seqOf_tup, seqOf_lst, startS, RS.seq_nx, RS.seq_ret, RS.seq_brk, RS.seq_ct, RS.seq_err, RS.seq_bad, L2.DL.R.bind_ok, L2.DL.R.bind_err, L2.DL.R.bind_bad, rS_ok, rS_err, rS_bad, Option.bind_some, Option.bind_none, Option.map_some, Option.map_none, Option.join_some, gN, noOwn, noOwns, noObj, noObjs, noSh, noShs, frz, frzs, List.map_cons, List.map_nil, List.getElem?_cons_zero, List.getElem?_cons_succ, List.set_cons_zero, List.set_cons_succ, List.length_cons, List.length_nil, List.cons_append, List.nil_append, List.replicate, setS_nil, setS_cons, gsNil, gsCons, gTn, Bool.and_true, Bool.true_and, Bool.and_false, Bool.false_and, Bool.or_true, Bool.true_or, Bool.or_false, Bool.false_or, Bool.not_true, Bool.not_false, Bool.and_self, if_true, if_false, Bool.false_eq_true, reduceIte, decide_true, decide_false, callIO, callPB, gatherA, backA, List.take_succ_cons, List.take_zero, atI0, atI1, atI2, atI3, Nat.reduceAdd, Nat.reduceSub, Int.reduceLT, Int.reduceLE, Int.reduceNeg, Int.reduceAdd, Int.reduceSub, Int.reduceMul, Nat.reduceLT, Nat.reduceLeDiff, Int.reduceEq, Int.reduceBEq]
  · simp only [h, decide_false] at ne
    simp only [sSeq_ap, sNil_ap, sIf_ap, sSet_ap, sRet_ap, sRetN_ap, sDrop_ap, sAsg_ap, sFor_ap, sAug_ap, sAugL_ap, sPut_ap, mT_ap, mTest_ap, mF_ap, mP_ap, mMove_ap, mFrz_ap, mFz_ap, sRaiseI_ap, mOp2_ap, mOp1_ap, mOpS_ap, mIx_ap, mIxL_ap, mIte_ap, mNot_ap, mAnd_ap, mOr_ap, mAndV_ap, mOrV_ap, msNil_ap, msCons_ap, psNil_ap, psCons_ap, pVar_ap, pC_ap, pOp1_ap, pOp2_ap, pOpS_ap, pTest_ap, pNot_ap, pAnd_ap, pOr_ap, pVal_ap, pAndV_ap, pOrV_ap, pIte_ap, pChain_ap, pNo_ap, poNone_ap, poSome_ap, pSl_ap, pSeq_ap, mSeq_ap, pRng_ap, mRng_ap, pComp_ap, mComp_ap, pYes_ap, pMet_ap, mMet_ap, mMeth_ap, pIsi_ap, pGet2_ap, aNil_ap, aSlot_ap, aVal_ap, mCallIO_ap, mCall_ap, mCallP_ap, mCallPB_ap, oIsN_ap, oNotN_ap, oAdd_int, oSub_int, ipAdd_int, ipSub_int, oLt_int, oLe_int, oGt_int, oGe_int, oLt_str, oLe_str, oGt_str, oGe_str, oEq_int, oNe_int, oEq_bl, oNeg_int, oSubs_lst, oSubs_tup, oIx_lst, oIx_tup, oLen_lst, oLen_tup, oIn_str, oNotIn_str, seqOf_str, seqOf_tup, seqOf_lst, startS, RS.seq_nx, RS.seq_ret, RS.seq_brk, RS.seq_ct, RS.seq_err, RS.seq_bad, L2.DL.R.bind_ok, L2.DL.R.bind_err, L2.DL.R.bind_bad, rS_ok, rS_err, rS_bad, Option.bind_some, Option.bind_none, Option.map_some, Option.map_none, Option.join_some, gN, noOwn, noOwns, noObj, noObjs, noSh, noShs, frz, frzs, List.map_cons, List.map_nil, List.getElem?_cons_zero, List.getElem?_cons_succ, List.set_cons_zero, List.set_cons_succ, List.length_cons, List.length_nil, List.cons_append, List.nil_append, List.replicate, setS_nil, setS_cons, gsNil, gsCons, gTn, Bool.and_true, Bool.true_and, Bool.and_false, Bool.false_and, Bool.or_true, Bool.true_or, Bool.or_false, Bool.false_or, Bool.not_true, Bool.not_false, Bool.and_self, if_true, if_false, Bool.false_eq_true, reduceIte, decide_true, decide_false, callIO, callPB, gatherA, backA, List.take_succ_cons, List.take_zero, atI0, atI1, atI2, atI3, Nat.reduceAdd, Nat.reduceSub, Int.reduceLT, Int.reduceLE, Int.reduceNeg, Int.reduceAdd, Int.reduceSub, Int.reduceMul, Nat.reduceLT, Nat.reduceLeDiff, Int.reduceEq, Int.reduceBEq, ne, isRw, h]
/-! ### drawn answers -/
theorem answers_loop {nums : List Int} {salt base : Int} {size : Val} (hb : 0 < base) (hb2 : base < 1073741824) : ∀ (ws : List Val) (acc : List Int) (at_ left : Int), 0 ≤ at_ → noOwns ws = true → (∀ c ∈ acc, 0 ≤ c ∧ c < base) → acc.length + ws.length ≤ 100000 →
    ∃ (acc' : List Int) (at' left' : Int), 0 ≤ at' ∧ acc'.length = acc.length + ws.length ∧ (∀ c ∈ acc', 0 ≤ c ∧ c < base) ∧
      compM [3] [3] gN (mT pYes) (mCallIO (m_law_pull) (aSlot 0 (aSlot 2 aNil))) ws (encI acc) [some (bagV nums at_ left salt), some size, some (.int base), none]
        = .ok (encI acc') [some (bagV nums at' left' salt), some size, some (.int base), none]
  | [], acc, at_, left, h0, _, ha, _ => ⟨acc, at_, left, h0, rfl, ha, rfl⟩
  | w :: ws, acc, at_, left, h0, hw, ha, hl => by
    simp only [noOwns, Bool.and_eq_true] at hw
    obtain ⟨at1, left1, r, h1, hr0, hr1, e1⟩ := pull_spec (nums := nums) (left := left) (salt := salt) (many := base) h0 hb hb2
    simp only [List.length_cons] at hl
    obtain ⟨acc', at2, left2, h2, l2, m2, e2⟩ := answers_loop hb hb2 ws (acc ++ [r]) at1 left1 h1 hw.2 (fun x hx => by
      rcases List.mem_append.mp hx with hx | hx
      · exact ha x hx
      · rw [List.mem_singleton.mp hx]; exact ⟨hr0, hr1⟩) (by simp only [List.length_append, List.length_cons, List.length_nil]; omega)
    refine ⟨acc', at2, left2, h2, by simp only [List.length_append, List.length_cons, List.length_nil] at l2 ⊢; omega, m2, ?_⟩
    have la : acc.length < sizeLine := by rw [sizeLine_eq]; omega
    rw [compM]
    simp only [sSeq_ap, sNil_ap, sIf_ap, sSet_ap, sRet_ap, sRetN_ap, sDrop_ap, sAsg_ap, sFor_ap, sAug_ap, sAugL_ap, sPut_ap, mT_ap, mTest_ap, mF_ap, mP_ap, mMove_ap, mFrz_ap, mFz_ap, sRaiseI_ap, mOp2_ap, mOp1_ap, mOpS_ap, mIx_ap, mIxL_ap, mIte_ap, mNot_ap, mAnd_ap, mOr_ap, mAndV_ap, mOrV_ap, msNil_ap, msCons_ap, psNil_ap, psCons_ap, pVar_ap, pC_ap, pOp1_ap, pOp2_ap, pOpS_ap, pTest_ap, pNot_ap, pAnd_ap, pOr_ap, pVal_ap, pAndV_ap, pOrV_ap, pIte_ap, pChain_ap, pNo_ap, poNone_ap, poSome_ap, pSl_ap, pSeq_ap, mSeq_ap, pRng_ap, mRng_ap, pComp_ap, mComp_ap, pYes_ap, pMet_ap, mMet_ap, mMeth_ap, pIsi_ap, pGet2_ap, aNil_ap, aSlot_ap, aVal_ap, mCallIO_ap, mCall_ap, mCallP_ap, mCallPB_ap, oIsN_ap, oNotN_ap, oAdd_int, oSub_int, ipAdd_int, ipSub_int, oLt_int, oLe_int, oGt_int, oGe_int, oLt_str, oLe_str, oGt_str, oGe_str, oEq_int, oNe_int, oEq_bl, oNeg_int, oSubs_lst, oSubs_tup, oIx_lst, oIx_tup, oLen_lst, oLen_tup, oIn_str, oNotIn_str, seqOf_str, seqOf_tup, seqOf_lst, startS, RS.seq_nx, RS.seq_ret, RS.seq_brk, RS.seq_ct, RS.seq_err, RS.seq_bad, L2.DL.R.bind_ok, L2.DL.R.bind_err, L2.DL.R.bind_bad, rS_ok, rS_err, rS_bad, Option.bind_some, Option.bind_none, Option.map_some, Option.map_none, Option.join_some, gN, noOwn, noOwns, noObj, noObjs, noSh, noShs, frz, frzs, List.map_cons, List.map_nil, List.getElem?_cons_zero, List.getElem?_cons_succ, List.set_cons_zero, List.set_cons_succ, List.length_cons, List.length_nil, List.cons_append, List.nil_append, List.replicate, setS_nil, setS_cons, gsNil, gsCons, gTn, Bool.and_true, Bool.true_and, Bool.and_false, Bool.false_and, Bool.or_true, Bool.true_or, Bool.or_false, Bool.false_or, Bool.not_true, Bool.not_false, Bool.and_self, if_true, if_false, Bool.false_eq_true, reduceIte, decide_true, decide_false, callIO, callPB, gatherA, backA, List.take_succ_cons, List.take_zero, atI0, atI1, atI2, atI3, Nat.reduceAdd, Nat.reduceSub, Int.reduceLT, Int.reduceLE, Int.reduceNeg, Int.reduceAdd, Int.reduceSub, Int.reduceMul, Nat.reduceLT, Nat.reduceLeDiff, Int.reduceEq, Int.reduceBEq, hw.1, nE_ok, e1, wipe3, encI_len, la]
    rw [encI_app] at e2
    exact e2
theorem answers_spec {nums : List Int} {at_ left salt : Int} {size base : Int} (h0 : 0 ≤ at_) (hs : 0 ≤ size) (hs2 : size ≤ 100000) (hb : 0 < base) (hb2 : base < 1073741824) :
    ∃ (at' left' : Int) (l : List Int), 0 ≤ at' ∧ (l.length : Int) = size ∧ (∀ c ∈ l, 0 ≤ c ∧ c < base) ∧ m_law_answers [bagV nums at_ left salt, .int size, .int base] = .ok (.tup (encI l)) [some (bagV nums at' left' salt), some (.int size), some (.int base)] := by
  obtain ⟨l, at', left', h1, h2, h3, e⟩ := answers_loop (nums := nums) (salt := salt) (size := .int size) hb hb2 (rng 0 size) [] at_ left h0 (rng_no _ _) (by simp) (by rw [rng_len]; simp only [List.length_nil]; omega)
  rw [rng_len] at h2
  simp only [List.length_nil, Int.sub_zero] at h2
  refine ⟨at', left', l, h1, by omega, h3, ?_⟩
  unfold m_law_answers fnIO g_law_answers
  have r1 := rngOf_one (j := size) (by omega) (by omega)
  have e' : compM [3] [3] gN (mT pYes) (mCallIO (m_law_pull) (aSlot 0 (aSlot 2 aNil))) (rng 0 size) [] [some (bagV nums at_ left salt), some (.int size), some (.int base), none] = _ := e
  have ot : oTuple [.lst true (encI l)] = some (.tup (encI l)) := by simp only [oTuple, noOwns_I, if_true]
  simp only [sSeq_ap, sNil_ap, sIf_ap, sSet_ap, sRet_ap, sRetN_ap, sDrop_ap, sAsg_ap, sFor_ap, sAug_ap, sAugL_ap, sPut_ap, mT_ap, mTest_ap, mF_ap, mP_ap, mMove_ap, mFrz_ap, mFz_ap, sRaiseI_ap, mOp2_ap, mOp1_ap, mOpS_ap, mIx_ap, mIxL_ap, mIte_ap, mNot_ap, mAnd_ap, mOr_ap, mAndV_ap, mOrV_ap, msNil_ap, msCons_ap, psNil_ap, psCons_ap, pVar_ap, pC_ap, pOp1_ap, pOp2_ap, pOpS_ap, pTest_ap, pNot_ap, pAnd_ap, pOr_ap, pVal_ap, pAndV_ap, pOrV_ap, pIte_ap, pChain_ap, pNo_ap, poNone_ap, poSome_ap, pSl_ap, pSeq_ap, mSeq_ap, pRng_ap, mRng_ap, pComp_ap, mComp_ap, pYes_ap, pMet_ap, mMet_ap, mMeth_ap, pIsi_ap, pGet2_ap, aNil_ap, aSlot_ap, aVal_ap, mCallIO_ap, mCall_ap, mCallP_ap, mCallPB_ap, oIsN_ap, oNotN_ap, oAdd_int, oSub_int, ipAdd_int, ipSub_int, oLt_int, oLe_int, oGt_int, oGe_int, oLt_str, oLe_str, oGt_str, oGe_str, oEq_int, oNe_int, oEq_bl, oNeg_int, oSubs_lst, oSubs_tup, oIx_lst, oIx_tup, oLen_lst, oLen_tup, oIn_str, oNotIn_str, seqOf_str, seqOf_tup, seqOf_lst, startS, RS.seq_nx, RS.seq_ret, RS.seq_brk, RS.seq_ct, RS.seq_err, RS.seq_bad, L2.DL.R.bind_ok, L2.DL.R.bind_err, L2.DL.R.bind_bad, rS_ok, rS_err, rS_bad, Option.bind_some, Option.bind_none, Option.map_some, Option.map_none, Option.join_some, gN, noOwn, noOwns, noObj, noObjs, noSh, noShs, frz, frzs, List.map_cons, List.map_nil, List.getElem?_cons_zero, List.getElem?_cons_succ, List.set_cons_zero, List.set_cons_succ, List.length_cons, List.length_nil, List.cons_append, List.nil_append, List.replicate, setS_nil, setS_cons, gsNil, gsCons, gTn, Bool.and_true, Bool.true_and, Bool.and_false, Bool.false_and, Bool.or_true, Bool.true_or, Bool.or_false, Bool.false_or, Bool.not_true, Bool.not_false, Bool.and_self, if_true, if_false, Bool.false_eq_true, reduceIte, decide_true, decide_false, callIO, callPB, gatherA, backA, List.take_succ_cons, List.take_zero, atI0, atI1, atI2, atI3, Nat.reduceAdd, Nat.reduceSub, Int.reduceLT, Int.reduceLE, Int.reduceNeg, Int.reduceAdd, Int.reduceSub, Int.reduceMul, Nat.reduceLT, Nat.reduceLeDiff, Int.reduceEq, Int.reduceBEq, r1, wipe3, e', ot]
/-! ### every law's first and last step -/
theorem truth_eq {a b : Bool} (h : a = b) : callP m_law_truth [.bl a, .bl b] = some (.bl true) := by
  subst h
  simp only [callP, sSeq_ap, sNil_ap, sIf_ap, sSet_ap, sRet_ap, sRetN_ap, sDrop_ap, sAsg_ap, sFor_ap, sAug_ap, sAugL_ap, sPut_ap, mT_ap, mTest_ap, mF_ap, mP_ap, mMove_ap, mFrz_ap, mFz_ap, sRaiseI_ap, mOp2_ap, mOp1_ap, mOpS_ap, mIx_ap, mIxL_ap, mIte_ap, mNot_ap, mAnd_ap, mOr_ap, mAndV_ap, mOrV_ap, msNil_ap, msCons_ap, psNil_ap, psCons_ap, pVar_ap, pC_ap, pOp1_ap, pOp2_ap, pOpS_ap, pTest_ap, pNot_ap, pAnd_ap, pOr_ap, pVal_ap, pAndV_ap, pOrV_ap, pIte_ap, pChain_ap, pNo_ap, poNone_ap, poSome_ap, pSl_ap, pSeq_ap, mSeq_ap, pRng_ap, mRng_ap, pComp_ap, mComp_ap, pYes_ap, pMet_ap, mMet_ap, mMeth_ap, pIsi_ap, pGet2_ap, aNil_ap, aSlot_ap, aVal_ap, mCallIO_ap, mCall_ap, mCallP_ap, mCallPB_ap, oIsN_ap, oNotN_ap, oAdd_int, oSub_int, ipAdd_int, ipSub_int, oLt_int, oLe_int, oGt_int, oGe_int, oLt_str, oLe_str, oGt_str, oGe_str, oEq_int, oNe_int, oEq_bl, oNeg_int, oSubs_lst, oSubs_tup, oIx_lst, oIx_tup, oLen_lst, oLen_tup, oIn_str, oNotIn_str, seqOf_str, seqOf_tup, seqOf_lst, startS, RS.seq_nx, RS.seq_ret, RS.seq_brk, RS.seq_ct, RS.seq_err, RS.seq_bad, L2.DL.R.bind_ok, L2.DL.R.bind_err, L2.DL.R.bind_bad, rS_ok, rS_err, rS_bad, Option.bind_some, Option.bind_none, Option.map_some, Option.map_none, Option.join_some, gN, noOwn, noOwns, noObj, noObjs, noSh, noShs, frz, frzs, List.map_cons, List.map_nil, List.getElem?_cons_zero, List.getElem?_cons_succ, List.set_cons_zero, List.set_cons_succ, List.length_cons, List.length_nil, List.cons_append, List.nil_append, List.replicate, setS_nil, setS_cons, gsNil, gsCons, gTn, Bool.and_true, Bool.true_and, Bool.and_false, Bool.false_and, Bool.or_true, Bool.true_or, Bool.or_false, Bool.false_or, Bool.not_true, Bool.not_false, Bool.and_self, if_true, if_false, Bool.false_eq_true, reduceIte, decide_true, decide_false, callIO, callPB, gatherA, backA, List.take_succ_cons, List.take_zero, atI0, atI1, atI2, atI3, Nat.reduceAdd, Nat.reduceSub, Int.reduceLT, Int.reduceLE, Int.reduceNeg, Int.reduceAdd, Int.reduceSub, Int.reduceMul, Nat.reduceLT, Nat.reduceLeDiff, Int.reduceEq, Int.reduceBEq, truth_spec, beq_self_eq_true]
theorem bag_call (K : PySem.W.Frag) (ns : List Int) : ∃ nums salt, callP (m_law_bag K) [.scr K ns] = some (bagV nums 0 0 salt) := by
  obtain ⟨nums, salt, e⟩ := bag_spec K ns
  exact ⟨nums, salt, by simp only [callP, sSeq_ap, sNil_ap, sIf_ap, sSet_ap, sRet_ap, sRetN_ap, sDrop_ap, sAsg_ap, sFor_ap, sAug_ap, sAugL_ap, sPut_ap, mT_ap, mTest_ap, mF_ap, mP_ap, mMove_ap, mFrz_ap, mFz_ap, sRaiseI_ap, mOp2_ap, mOp1_ap, mOpS_ap, mIx_ap, mIxL_ap, mIte_ap, mNot_ap, mAnd_ap, mOr_ap, mAndV_ap, mOrV_ap, msNil_ap, msCons_ap, psNil_ap, psCons_ap, pVar_ap, pC_ap, pOp1_ap, pOp2_ap, pOpS_ap, pTest_ap, pNot_ap, pAnd_ap, pOr_ap, pVal_ap, pAndV_ap, pOrV_ap, pIte_ap, pChain_ap, pNo_ap, poNone_ap, poSome_ap, pSl_ap, pSeq_ap, mSeq_ap, pRng_ap, mRng_ap, pComp_ap, mComp_ap, pYes_ap, pMet_ap, mMet_ap, mMeth_ap, pIsi_ap, pGet2_ap, aNil_ap, aSlot_ap, aVal_ap, mCallIO_ap, mCall_ap, mCallP_ap, mCallPB_ap, oIsN_ap, oNotN_ap, oAdd_int, oSub_int, ipAdd_int, ipSub_int, oLt_int, oLe_int, oGt_int, oGe_int, oLt_str, oLe_str, oGt_str, oGe_str, oEq_int, oNe_int, oEq_bl, oNeg_int, oSubs_lst, oSubs_tup, oIx_lst, oIx_tup, oLen_lst, oLen_tup, oIn_str, oNotIn_str, seqOf_str, seqOf_tup, seqOf_lst, startS, RS.seq_nx, RS.seq_ret, RS.seq_brk, RS.seq_ct, RS.seq_err, RS.seq_bad, L2.DL.R.bind_ok, L2.DL.R.bind_err, L2.DL.R.bind_bad, rS_ok, rS_err, rS_bad, Option.bind_some, Option.bind_none, Option.map_some, Option.map_none, Option.join_some, gN, noOwn, noOwns, noObj, noObjs, noSh, noShs, frz, frzs, List.map_cons, List.map_nil, List.getElem?_cons_zero, List.getElem?_cons_succ, List.set_cons_zero, List.set_cons_succ, List.length_cons, List.length_nil, List.cons_append, List.nil_append, List.replicate, setS_nil, setS_cons, gsNil, gsCons, gTn, Bool.and_true, Bool.true_and, Bool.and_false, Bool.false_and, Bool.or_true, Bool.true_or, Bool.or_false, Bool.false_or, Bool.not_true, Bool.not_false, Bool.and_self, if_true, if_false, Bool.false_eq_true, reduceIte, decide_true, decide_false, callIO, callPB, gatherA, backA, List.take_succ_cons, List.take_zero, atI0, atI1, atI2, atI3, Nat.reduceAdd, Nat.reduceSub, Int.reduceLT, Int.reduceLE, Int.reduceNeg, Int.reduceAdd, Int.reduceSub, Int.reduceMul, Nat.reduceLT, Nat.reduceLeDiff, Int.reduceEq, Int.reduceBEq, e]⟩
end RT

namespace RT
open L2 PyProof.Rows PySem.Spec PySem L2.DL SX
/-! ### rooms as tuples that are known -/
theorem oLen_tpz (ws : List Val) : oLen [.tpz ws] = some (.int ws.length) := rfl
theorem seqOf_tpz (ws : List Val) : seqOf (.tpz ws) = some (.tpz ws, ws) := rfl
theorem oSubs_tpz (ws : List Val) (i : Int) : oSubs (.tpz ws) (.int i) = atI ws i := rfl
theorem oIn_Nz (s : List Nat) (ss : List (List Nat)) : oIn (.str (S s)) (.tpz (encN ss)) = some (.bl (decide (s ∈ ss))) := by
  simp only [oIn, inB, atom, atoms_N, inV_N, Option.map_some, Option.bind_some]
theorem oNotIn_Nz (s : List Nat) (ss : List (List Nat)) : oNotIn (.str (S s)) (.tpz (encN ss)) = some (.bl (!decide (s ∈ ss))) := by
  simp only [oNotIn, inB, atom, atoms_N, inV_N, Option.map_some, Option.bind_some]
theorem strsOf_N (ss : List (List Nat)) : strsOf (encN ss) = some (ss.map S) := strs_map ss
theorem fstAt_N {n : List Nat} : ∀ {ss : List (List Nat)}, n ∈ ss → fstAt (ss.map S) (S n) = some (ss.idxOf n)
  | s :: ss, h => by
    rw [List.map_cons, fstAt, S_beq_eq, List.idxOf_cons]
    by_cases e : s = n
    · simp [e]
    · have hm : n ∈ ss := by
        rcases List.mem_cons.mp h with rfl | h
        · exact absurd rfl e
        · exact h
      have e2 : (s == n) = false := beq_eq_false_iff_ne.mpr e
      simp [e, e2, fstAt_N hm]
theorem gIndex_N {n : List Nat} {ss : List (List Nat)} (h : n ∈ ss) : gIndexZ (.tpz (encN ss)) (.str (S n)) = some (.int (ss.idxOf n : Nat)) := by
  simp only [gIndexZ, strsOf_N, Option.bind_some, fstAt_N h, Option.map_some]
theorem compP_str {is : List Nat} {f : P Val} {ρ : Slots} (φ : List Nat → Val) (l : List (List Nat)) (h : ∀ s ∈ l, f (setS ρ is [.str (S s)]) = some (φ s)) : compP is gN pYes f ρ (encN l) = some (l.map φ) :=
  compP_map (fun s => .str (S s)) φ l fun a ha => ⟨_, rfl, h a ha⟩
theorem compP_int {is : List Nat} {f : P Val} {ρ : Slots} (φ : Int → Val) (l : List Int) (h : ∀ s ∈ l, f (setS ρ is [.int s]) = some (φ s)) : compP is gN pYes f ρ (encI l) = some (l.map φ) :=
  compP_map .int φ l fun a ha => ⟨_, rfl, h a ha⟩
/-! ### within, places, picked, share -/
def inAll (part room : List (List Nat)) : Bool := part.all fun s => decide (s ∈ room)
theorem within_loop {a : Option Val} {room : List (List Nat)} : ∀ (l : List (List Nat)) (x : Option Val), ∃ x', forL [2] gN l1_within (encN l) [a, some (.tpz (encN room)), x] = if inAll l room = true then .nx [a, some (.tpz (encN room)), x'] else .ret (.bl false) [a, some (.tpz (encN room)), x']
  | [], x => ⟨x, rfl⟩
  | k :: l, x => by
    obtain ⟨x', ih⟩ := within_loop (a := a) (room := room) l (some (.str (S k)))
    rw [encN_cons, forL]
    by_cases h : k ∈ room
    · have q : inAll (k :: l) room = inAll l room := by simp only [inAll, List.all_cons, h, decide_true, Bool.true_and]
      refine ⟨x', ?_⟩
      simp only [sSeq_ap, sNil_ap, sIf_ap, sSet_ap, sRet_ap, sRetN_ap, sDrop_ap, sAsg_ap, sFor_ap, sAug_ap, sAugL_ap, sPut_ap, mT_ap, mTest_ap, mF_ap, mP_ap, mMove_ap, mFrz_ap, mFz_ap, sRaiseI_ap, mOp2_ap, mOp1_ap, mOpS_ap, mIx_ap, mIxL_ap, mIte_ap, mNot_ap, mAnd_ap, mOr_ap, mAndV_ap, mOrV_ap, msNil_ap, msCons_ap, psNil_ap, psCons_ap, pVar_ap, pC_ap, pOp1_ap, pOp2_ap, pOpS_ap, pTest_ap, pNot_ap, pAnd_ap, pOr_ap, pVal_ap, pAndV_ap, pOrV_ap, pIte_ap, pChain_ap, pNo_ap, poNone_ap, poSome_ap, pSl_ap, pSeq_ap, mSeq_ap, pRng_ap, mRng_ap, pComp_ap, mComp_ap, pYes_ap, pMet_ap, mMet_ap, mMeth_ap, pIsi_ap, pGet2_ap, aNil_ap, aSlot_ap, aVal_ap, mCallIO_ap, mCall_ap, mCallP_ap, mCallPB_ap, oIsN_ap, oNotN_ap, oAdd_int, oSub_int, ipAdd_int, ipSub_int, oLt_int, oLe_int, oGt_int, oGe_int, oLt_str, oLe_str, oGt_str, oGe_str, oEq_int, oNe_int, oEq_bl, oNeg_int, oSubs_lst, oSubs_tup, oIx_lst, oIx_tup, oLen_lst, oLen_tup, oIn_str, oNotIn_str, seqOf_str, seqOf_tup, seqOf_lst, startS, RS.seq_nx, RS.seq_ret, RS.seq_brk, RS.seq_ct, RS.seq_err, RS.seq_bad, L2.DL.R.bind_ok, L2.DL.R.bind_err, L2.DL.R.bind_bad, rS_ok, rS_err, rS_bad, Option.bind_some, Option.bind_none, Option.map_some, Option.map_none, Option.join_some, gN, noOwn, noOwns, noObj, noObjs, noSh, noShs, frz, frzs, List.map_cons, List.map_nil, List.getElem?_cons_zero, List.getElem?_cons_succ, List.set_cons_zero, List.set_cons_succ, List.length_cons, List.length_nil, List.cons_append, List.nil_append, List.replicate, setS_nil, setS_cons, gsNil, gsCons, gTn, Bool.and_true, Bool.true_and, Bool.and_false, Bool.false_and, Bool.or_true, Bool.true_or, Bool.or_false, Bool.false_or, Bool.not_true, Bool.not_false, Bool.and_self, if_true, if_false, Bool.false_eq_true, reduceIte, decide_true, decide_false, callIO, callPB, gatherA, backA, List.take_succ_cons, List.take_zero, atI0, atI1, atI2, atI3, Nat.reduceAdd, Nat.reduceSub, Int.reduceLT, Int.reduceLE, Int.reduceNeg, Int.reduceAdd, Int.reduceSub, Int.reduceMul, Nat.reduceLT, Nat.reduceLeDiff, Int.reduceEq, Int.reduceBEq, l1_within, oNotIn_Nz, h, q]
      exact ih
    · have q : inAll (k :: l) room = false := by simp only [inAll, List.all_cons, h, decide_false, Bool.false_and]
      refine ⟨some (.str (S k)), ?_⟩
      simp only [sSeq_ap, sNil_ap, sIf_ap, sSet_ap, sRet_ap, sRetN_ap, sDrop_ap, sAsg_ap, sFor_ap, sAug_ap, sAugL_ap, sPut_ap, mT_ap, mTest_ap, mF_ap, mP_ap, mMove_ap, mFrz_ap, mFz_ap, sRaiseI_ap, mOp2_ap, mOp1_ap, mOpS_ap, mIx_ap, mIxL_ap, mIte_ap, mNot_ap, mAnd_ap, mOr_ap, mAndV_ap, mOrV_ap, msNil_ap, msCons_ap, psNil_ap, psCons_ap, pVar_ap, pC_ap, pOp1_ap, pOp2_ap, pOpS_ap, pTest_ap, pNot_ap, pAnd_ap, pOr_ap, pVal_ap, pAndV_ap, pOrV_ap, pIte_ap, pChain_ap, pNo_ap, poNone_ap, poSome_ap, pSl_ap, pSeq_ap, mSeq_ap, pRng_ap, mRng_ap, pComp_ap, mComp_ap, pYes_ap, pMet_ap, mMet_ap, mMeth_ap, pIsi_ap, pGet2_ap, aNil_ap, aSlot_ap, aVal_ap, mCallIO_ap, mCall_ap, mCallP_ap, mCallPB_ap, oIsN_ap, oNotN_ap, oAdd_int, oSub_int, ipAdd_int, ipSub_int, oLt_int, oLe_int, oGt_int, oGe_int, oLt_str, oLe_str, oGt_str, oGe_str, oEq_int, oNe_int, oEq_bl, oNeg_int, oSubs_lst, oSubs_tup, oIx_lst, oIx_tup, oLen_lst, oLen_tup, oIn_str, oNotIn_str, seqOf_str, seqOf_tup, seqOf_lst, startS, RS.seq_nx, RS.seq_ret, RS.seq_brk, RS.seq_ct, RS.seq_err, RS.seq_bad, L2.DL.R.bind_ok, L2.DL.R.bind_err, L2.DL.R.bind_bad, rS_ok, rS_err, rS_bad, Option.bind_some, Option.bind_none, Option.map_some, Option.map_none, Option.join_some, gN, noOwn, noOwns, noObj, noObjs, noSh, noShs, frz, frzs, List.map_cons, List.map_nil, List.getElem?_cons_zero, List.getElem?_cons_succ, List.set_cons_zero, List.set_cons_succ, List.length_cons, List.length_nil, List.cons_append, List.nil_append, List.replicate, setS_nil, setS_cons, gsNil, gsCons, gTn, Bool.and_true, Bool.true_and, Bool.and_false, Bool.false_and, Bool.or_true, Bool.true_or, Bool.or_false, Bool.false_or, Bool.not_true, Bool.not_false, Bool.and_self, if_true, if_false, Bool.false_eq_true, reduceIte, decide_true, decide_false, callIO, callPB, gatherA, backA, List.take_succ_cons, List.take_zero, atI0, atI1, atI2, atI3, Nat.reduceAdd, Nat.reduceSub, Int.reduceLT, Int.reduceLE, Int.reduceNeg, Int.reduceAdd, Int.reduceSub, Int.reduceMul, Nat.reduceLT, Nat.reduceLeDiff, Int.reduceEq, Int.reduceBEq, l1_within, oNotIn_Nz, h, q]
theorem within_spec (part room : List (List Nat)) : m_within [.tpz (encN part), .tpz (encN room)] = .ok (.bl (inAll part room)) := by
  unfold m_within fnP g_within
  obtain ⟨x', e⟩ := within_loop (a := some (.tpz (encN part))) (room := room) part none
  simp only [sSeq_ap, sNil_ap, sIf_ap, sSet_ap, sRet_ap, sRetN_ap, sDrop_ap, sAsg_ap, sFor_ap, sAug_ap, sAugL_ap, sPut_ap, mT_ap, mTest_ap, mF_ap, mP_ap, mMove_ap, mFrz_ap, mFz_ap, sRaiseI_ap, mOp2_ap, mOp1_ap, mOpS_ap, mIx_ap, mIxL_ap, mIte_ap, mNot_ap, mAnd_ap, mOr_ap, mAndV_ap, mOrV_ap, msNil_ap, msCons_ap, psNil_ap, psCons_ap, pVar_ap, pC_ap, pOp1_ap, pOp2_ap, pOpS_ap, pTest_ap, pNot_ap, pAnd_ap, pOr_ap, pVal_ap, pAndV_ap, pOrV_ap, pIte_ap, pChain_ap, pNo_ap, poNone_ap, poSome_ap, pSl_ap, pSeq_ap, mSeq_ap, pRng_ap, mRng_ap, pComp_ap, mComp_ap, pYes_ap, pMet_ap, mMet_ap, mMeth_ap, pIsi_ap, pGet2_ap, aNil_ap, aSlot_ap, aVal_ap, mCallIO_ap, mCall_ap, mCallP_ap, mCallPB_ap, oIsN_ap, oNotN_ap, oAdd_int, oSub_int, ipAdd_int, ipSub_int, oLt_int, oLe_int, oGt_int, oGe_int, oLt_str, oLe_str, oGt_str, oGe_str, oEq_int, oNe_int, oEq_bl, oNeg_int, oSubs_lst, oSubs_tup, oIx_lst, oIx_tup, oLen_lst, oLen_tup, oIn_str, oNotIn_str, seqOf_str, seqOf_tup, seqOf_lst, startS, RS.seq_nx, RS.seq_ret, RS.seq_brk, RS.seq_ct, RS.seq_err, RS.seq_bad, L2.DL.R.bind_ok, L2.DL.R.bind_err, L2.DL.R.bind_bad, rS_ok, rS_err, rS_bad, Option.bind_some, Option.bind_none, Option.map_some, Option.map_none, Option.join_some, gN, noOwn, noOwns, noObj, noObjs, noSh, noShs, frz, frzs, List.map_cons, List.map_nil, List.getElem?_cons_zero, List.getElem?_cons_succ, List.set_cons_zero, List.set_cons_succ, List.length_cons, List.length_nil, List.cons_append, List.nil_append, List.replicate, setS_nil, setS_cons, gsNil, gsCons, gTn, Bool.and_true, Bool.true_and, Bool.and_false, Bool.false_and, Bool.or_true, Bool.true_or, Bool.or_false, Bool.false_or, Bool.not_true, Bool.not_false, Bool.and_self, if_true, if_false, Bool.false_eq_true, reduceIte, decide_true, decide_false, callIO, callPB, gatherA, backA, List.take_succ_cons, List.take_zero, atI0, atI1, atI2, atI3, Nat.reduceAdd, Nat.reduceSub, Int.reduceLT, Int.reduceLE, Int.reduceNeg, Int.reduceAdd, Int.reduceSub, Int.reduceMul, Nat.reduceLT, Nat.reduceLeDiff, Int.reduceEq, Int.reduceBEq, noOwns_N, seqOf_tpz, e]
  cases inAll part room <;> simp only [sSeq_ap, sNil_ap, sIf_ap, sSet_ap, sRet_ap, sRetN_ap, sDrop_ap, sAsg_ap, sFor_ap, sAug_ap, sAugL_ap, sPut_ap, mT_ap, mTest_ap, mF_ap, mP_ap, mMove_ap, mFrz_ap, mFz_ap, sRaiseI_ap, mOp2_ap, mOp1_ap, mOpS_ap, mIx_ap, mIxL_ap, mIte_ap, mNot_ap, mAnd_ap, mOr_ap, mAndV_ap, mOrV_ap, msNil_ap, msCons_ap, psNil_ap, psCons_ap, pVar_ap, pC_ap, pOp1_ap, pOp2_ap, pOpS_ap, pTest_ap, pNot_ap, pAnd_ap, pOr_ap, pVal_ap, pAndV_ap, pOrV_ap, pIte_ap, pChain_ap, pNo_ap, poNone_ap, poSome_ap, pSl_ap, pSeq_ap, mSeq_ap, pRng_ap, mRng_ap, pComp_ap, mComp_ap, pYes_ap, pMet_ap, mMet_ap, mMeth_ap, pIsi_ap, pGet2_ap, aNil_ap, aSlot_ap, aVal_ap, mCallIO_ap, mCall_ap, mCallP_ap, mCallPB_ap, oIsN_ap, oNotN_ap, oAdd_int, oSub_int, ipAdd_int, ipSub_int, oLt_int, oLe_int, oGt_int, oGe_int, oLt_str, oLe_str, oGt_str, oGe_str, oEq_int, oNe_int, oEq_bl, oNeg_int, oSubs_lst, oSubs_tup, oIx_lst, oIx_tup, oLen_lst, oLen_tup, oIn_str, oNotIn_str, seqOf_str, seqOf_tup, seqOf_lst, startS, RS.seq_nx, RS.seq_ret, RS.seq_brk, RS.seq_ct, RS.seq_err, RS.seq_bad, L2.DL.R.bind_ok, L2.DL.R.bind_err, L2.DL.R.bind_bad, rS_ok, rS_err, rS_bad, Option.bind_some, Option.bind_none, Option.map_some, Option.map_none, Option.join_some, gN, noOwn, noOwns, noObj, noObjs, noSh, noShs, frz, frzs, List.map_cons, List.map_nil, List.getElem?_cons_zero, List.getElem?_cons_succ, List.set_cons_zero, List.set_cons_succ, List.length_cons, List.length_nil, List.cons_append, List.nil_append, List.replicate, setS_nil, setS_cons, gsNil, gsCons, gTn, Bool.and_true, Bool.true_and, Bool.and_false, Bool.false_and, Bool.or_true, Bool.true_or, Bool.or_false, Bool.false_or, Bool.not_true, Bool.not_false, Bool.and_self, if_true, if_false, Bool.false_eq_true, reduceIte, decide_true, decide_false, callIO, callPB, gatherA, backA, List.take_succ_cons, List.take_zero, atI0, atI1, atI2, atI3, Nat.reduceAdd, Nat.reduceSub, Int.reduceLT, Int.reduceLE, Int.reduceNeg, Int.reduceAdd, Int.reduceSub, Int.reduceMul, Nat.reduceLT, Nat.reduceLeDiff, Int.reduceEq, Int.reduceBEq]
theorem within_call (part room : List (List Nat)) : callP m_within [.tpz (encN part), .tpz (encN room)] = some (.bl (inAll part room)) := by
  simp only [callP, noObjs, noObj, noObjs_N, frzs, frz, frzs_N, noOwns, noOwn, noOwns_N, within_spec, sSeq_ap, sNil_ap, sIf_ap, sSet_ap, sRet_ap, sRetN_ap, sDrop_ap, sAsg_ap, sFor_ap, sAug_ap, sAugL_ap, sPut_ap, mT_ap, mTest_ap, mF_ap, mP_ap, mMove_ap, mFrz_ap, mFz_ap, sRaiseI_ap, mOp2_ap, mOp1_ap, mOpS_ap, mIx_ap, mIxL_ap, mIte_ap, mNot_ap, mAnd_ap, mOr_ap, mAndV_ap, mOrV_ap, msNil_ap, msCons_ap, psNil_ap, psCons_ap, pVar_ap, pC_ap, pOp1_ap, pOp2_ap, pOpS_ap, pTest_ap, pNot_ap, pAnd_ap, pOr_ap, pVal_ap, pAndV_ap, pOrV_ap, pIte_ap, pChain_ap, pNo_ap, poNone_ap, poSome_ap, pSl_ap, pSeq_ap, mSeq_ap, pRng_ap, mRng_ap, pComp_ap, mComp_ap, pYes_ap, pMet_ap, mMet_ap, mMeth_ap, pIsi_ap, pGet2_ap, aNil_ap, aSlot_ap, aVal_ap, mCallIO_ap, mCall_ap, mCallP_ap, mCallPB_ap, oIsN_ap, oNotN_ap, oAdd_int, oSub_int, ipAdd_int, ipSub_int, oLt_int, oLe_int, oGt_int, oGe_int, oLt_str, oLe_str, oGt_str, oGe_str, oEq_int, oNe_int, oEq_bl, oNeg_int, oSubs_lst, oSubs_tup, oIx_lst, oIx_tup, oLen_lst, oLen_tup, oIn_str, oNotIn_str, seqOf_str, seqOf_tup, seqOf_lst, startS, RS.seq_nx, RS.seq_ret, RS.seq_brk, RS.seq_ct, RS.seq_err, RS.seq_bad, L2.DL.R.bind_ok, L2.DL.R.bind_err, L2.DL.R.bind_bad, rS_ok, rS_err, rS_bad, Option.bind_some, Option.bind_none, Option.map_some, Option.map_none, Option.join_some, gN, noOwn, noOwns, noObj, noObjs, noSh, noShs, frz, frzs, List.map_cons, List.map_nil, List.getElem?_cons_zero, List.getElem?_cons_succ, List.set_cons_zero, List.set_cons_succ, List.length_cons, List.length_nil, List.cons_append, List.nil_append, List.replicate, setS_nil, setS_cons, gsNil, gsCons, gTn, Bool.and_true, Bool.true_and, Bool.and_false, Bool.false_and, Bool.or_true, Bool.true_or, Bool.or_false, Bool.false_or, Bool.not_true, Bool.not_false, Bool.and_self, if_true, if_false, Bool.false_eq_true, reduceIte, decide_true, decide_false, callIO, callPB, gatherA, backA, List.take_succ_cons, List.take_zero, atI0, atI1, atI2, atI3, Nat.reduceAdd, Nat.reduceSub, Int.reduceLT, Int.reduceLE, Int.reduceNeg, Int.reduceAdd, Int.reduceSub, Int.reduceMul, Nat.reduceLT, Nat.reduceLeDiff, Int.reduceEq, Int.reduceBEq]
def spots (room part : List (List Nat)) : List Int := part.map fun n => ((room.idxOf n : Nat) : Int)
theorem places_spec {part room : List (List Nat)} (hl : part.length ≤ 16777216) : m_places [.tpz (encN room), .tpz (encN part)] = if inAll part room = true then .ok (.lst true (encI (spots room part))) else .err "BadRoom" none := by
  unfold m_places fnP g_places
  by_cases h : inAll part room = true
  · have cp : compP [2] gN pYes (pIdx (pVar 0) (pVar 2)) [some (.tpz (encN room)), some (.tpz (encN part)), none] (encN part) = some (part.map fun n => .int ((room.idxOf n : Nat) : Int)) :=
      compP_str _ part fun s hs => by
        have : s ∈ room := of_decide_eq_true (List.all_eq_true.mp h s hs)
        simp only [sSeq_ap, sNil_ap, sIf_ap, sSet_ap, sRet_ap, sRetN_ap, sDrop_ap, sAsg_ap, sFor_ap, sAug_ap, sAugL_ap, sPut_ap, mT_ap, mTest_ap, mF_ap, mP_ap, mMove_ap, mFrz_ap, mFz_ap, sRaiseI_ap, mOp2_ap, mOp1_ap, mOpS_ap, mIx_ap, mIxL_ap, mIte_ap, mNot_ap, mAnd_ap, mOr_ap, mAndV_ap, mOrV_ap, msNil_ap, msCons_ap, psNil_ap, psCons_ap, pVar_ap, pC_ap, pOp1_ap, pOp2_ap, pOpS_ap, pTest_ap, pNot_ap, pAnd_ap, pOr_ap, pVal_ap, pAndV_ap, pOrV_ap, pIte_ap, pChain_ap, pNo_ap, poNone_ap, poSome_ap, pSl_ap, pSeq_ap, mSeq_ap, pRng_ap, mRng_ap, pComp_ap, mComp_ap, pYes_ap, pMet_ap, mMet_ap, mMeth_ap, pIsi_ap, pGet2_ap, aNil_ap, aSlot_ap, aVal_ap, mCallIO_ap, mCall_ap, mCallP_ap, mCallPB_ap, oIsN_ap, oNotN_ap, oAdd_int, oSub_int, ipAdd_int, ipSub_int, oLt_int, oLe_int, oGt_int, oGe_int, oLt_str, oLe_str, oGt_str, oGe_str, oEq_int, oNe_int, oEq_bl, oNeg_int, oSubs_lst, oSubs_tup, oIx_lst, oIx_tup, oLen_lst, oLen_tup, oIn_str, oNotIn_str, seqOf_str, seqOf_tup, seqOf_lst, startS, RS.seq_nx, RS.seq_ret, RS.seq_brk, RS.seq_ct, RS.seq_err, RS.seq_bad, L2.DL.R.bind_ok, L2.DL.R.bind_err, L2.DL.R.bind_bad, rS_ok, rS_err, rS_bad, Option.bind_some, Option.bind_none, Option.map_some, Option.map_none, Option.join_some, gN, noOwn, noOwns, noObj, noObjs, noSh, noShs, frz, frzs, List.map_cons, List.map_nil, List.getElem?_cons_zero, List.getElem?_cons_succ, List.set_cons_zero, List.set_cons_succ, List.length_cons, List.length_nil, List.cons_append, List.nil_append, List.replicate, setS_nil, setS_cons, gsNil, gsCons, gTn, Bool.and_true, Bool.true_and, Bool.and_false, Bool.false_and, Bool.or_true, Bool.true_or, Bool.or_false, Bool.false_or, Bool.not_true, Bool.not_false, Bool.and_self, if_true, if_false, Bool.false_eq_true, reduceIte, decide_true, decide_false, callIO, callPB, gatherA, backA, List.take_succ_cons, List.take_zero, atI0, atI1, atI2, atI3, Nat.reduceAdd, Nat.reduceSub, Int.reduceLT, Int.reduceLE, Int.reduceNeg, Int.reduceAdd, Int.reduceSub, Int.reduceMul, Nat.reduceLT, Nat.reduceLeDiff, Int.reduceEq, Int.reduceBEq, pIdx, gIndex_N this]
    have w2 : ∀ a b c, wipeS [a, b, c] [2] = [a, b, none] := fun _ _ _ => rfl
    have lz : (part.map fun n => Val.int ((room.idxOf n : Nat) : Int)).length ≤ sizeLine := by rw [List.length_map, sizeLine_eq]; exact hl
    simp only [sSeq_ap, sNil_ap, sIf_ap, sSet_ap, sRet_ap, sRetN_ap, sDrop_ap, sAsg_ap, sFor_ap, sAug_ap, sAugL_ap, sPut_ap, mT_ap, mTest_ap, mF_ap, mP_ap, mMove_ap, mFrz_ap, mFz_ap, sRaiseI_ap, mOp2_ap, mOp1_ap, mOpS_ap, mIx_ap, mIxL_ap, mIte_ap, mNot_ap, mAnd_ap, mOr_ap, mAndV_ap, mOrV_ap, msNil_ap, msCons_ap, psNil_ap, psCons_ap, pVar_ap, pC_ap, pOp1_ap, pOp2_ap, pOpS_ap, pTest_ap, pNot_ap, pAnd_ap, pOr_ap, pVal_ap, pAndV_ap, pOrV_ap, pIte_ap, pChain_ap, pNo_ap, poNone_ap, poSome_ap, pSl_ap, pSeq_ap, mSeq_ap, pRng_ap, mRng_ap, pComp_ap, mComp_ap, pYes_ap, pMet_ap, mMet_ap, mMeth_ap, pIsi_ap, pGet2_ap, aNil_ap, aSlot_ap, aVal_ap, mCallIO_ap, mCall_ap, mCallP_ap, mCallPB_ap, oIsN_ap, oNotN_ap, oAdd_int, oSub_int, ipAdd_int, ipSub_int, oLt_int, oLe_int, oGt_int, oGe_int, oLt_str, oLe_str, oGt_str, oGe_str, oEq_int, oNe_int, oEq_bl, oNeg_int, oSubs_lst, oSubs_tup, oIx_lst, oIx_tup, oLen_lst, oLen_tup, oIn_str, oNotIn_str, seqOf_str, seqOf_tup, seqOf_lst, startS, RS.seq_nx, RS.seq_ret, RS.seq_brk, RS.seq_ct, RS.seq_err, RS.seq_bad, L2.DL.R.bind_ok, L2.DL.R.bind_err, L2.DL.R.bind_bad, rS_ok, rS_err, rS_bad, Option.bind_some, Option.bind_none, Option.map_some, Option.map_none, Option.join_some, gN, noOwn, noOwns, noObj, noObjs, noSh, noShs, frz, frzs, List.map_cons, List.map_nil, List.getElem?_cons_zero, List.getElem?_cons_succ, List.set_cons_zero, List.set_cons_succ, List.length_cons, List.length_nil, List.cons_append, List.nil_append, List.replicate, setS_nil, setS_cons, gsNil, gsCons, gTn, Bool.and_true, Bool.true_and, Bool.and_false, Bool.false_and, Bool.or_true, Bool.true_or, Bool.or_false, Bool.false_or, Bool.not_true, Bool.not_false, Bool.and_self, if_true, if_false, Bool.false_eq_true, reduceIte, decide_true, decide_false, callIO, callPB, gatherA, backA, List.take_succ_cons, List.take_zero, atI0, atI1, atI2, atI3, Nat.reduceAdd, Nat.reduceSub, Int.reduceLT, Int.reduceLE, Int.reduceNeg, Int.reduceAdd, Int.reduceSub, Int.reduceMul, Nat.reduceLT, Nat.reduceLeDiff, Int.reduceEq, Int.reduceBEq, within_call, h, seqOf_tpz, w2, cp, lz]
    simp only [encI, spots, List.map_map, Function.comp_def]
  · have h' : inAll part room = false := by cases q : inAll part room with
      | true => exact absurd q h
      | false => rfl
    simp only [sSeq_ap, sNil_ap, sIf_ap, sSet_ap, sRet_ap, sRetN_ap, sDrop_ap, sAsg_ap, sFor_ap, sAug_ap, sAugL_ap, sPut_ap, mT_ap, mTest_ap, mF_ap, mP_ap, mMove_ap, mFrz_ap, mFz_ap, sRaiseI_ap, mOp2_ap, mOp1_ap, mOpS_ap, mIx_ap, mIxL_ap, mIte_ap, mNot_ap, mAnd_ap, mOr_ap, mAndV_ap, mOrV_ap, msNil_ap, msCons_ap, psNil_ap, psCons_ap, pVar_ap, pC_ap, pOp1_ap, pOp2_ap, pOpS_ap, pTest_ap, pNot_ap, pAnd_ap, pOr_ap, pVal_ap, pAndV_ap, pOrV_ap, pIte_ap, pChain_ap, pNo_ap, poNone_ap, poSome_ap, pSl_ap, pSeq_ap, mSeq_ap, pRng_ap, mRng_ap, pComp_ap, mComp_ap, pYes_ap, pMet_ap, mMet_ap, mMeth_ap, pIsi_ap, pGet2_ap, aNil_ap, aSlot_ap, aVal_ap, mCallIO_ap, mCall_ap, mCallP_ap, mCallPB_ap, oIsN_ap, oNotN_ap, oAdd_int, oSub_int, ipAdd_int, ipSub_int, oLt_int, oLe_int, oGt_int, oGe_int, oLt_str, oLe_str, oGt_str, oGe_str, oEq_int, oNe_int, oEq_bl, oNeg_int, oSubs_lst, oSubs_tup, oIx_lst, oIx_tup, oLen_lst, oLen_tup, oIn_str, oNotIn_str, seqOf_str, seqOf_tup, seqOf_lst, startS, RS.seq_nx, RS.seq_ret, RS.seq_brk, RS.seq_ct, RS.seq_err, RS.seq_bad, L2.DL.R.bind_ok, L2.DL.R.bind_err, L2.DL.R.bind_bad, rS_ok, rS_err, rS_bad, Option.bind_some, Option.bind_none, Option.map_some, Option.map_none, Option.join_some, gN, noOwn, noOwns, noObj, noObjs, noSh, noShs, frz, frzs, List.map_cons, List.map_nil, List.getElem?_cons_zero, List.getElem?_cons_succ, List.set_cons_zero, List.set_cons_succ, List.length_cons, List.length_nil, List.cons_append, List.nil_append, List.replicate, setS_nil, setS_cons, gsNil, gsCons, gTn, Bool.and_true, Bool.true_and, Bool.and_false, Bool.false_and, Bool.or_true, Bool.true_or, Bool.or_false, Bool.false_or, Bool.not_true, Bool.not_false, Bool.and_self, if_true, if_false, Bool.false_eq_true, reduceIte, decide_true, decide_false, callIO, callPB, gatherA, backA, List.take_succ_cons, List.take_zero, atI0, atI1, atI2, atI3, Nat.reduceAdd, Nat.reduceSub, Int.reduceLT, Int.reduceLE, Int.reduceNeg, Int.reduceAdd, Int.reduceSub, Int.reduceMul, Nat.reduceLT, Nat.reduceLeDiff, Int.reduceEq, Int.reduceBEq, within_call, h']
theorem picked_spec {row sp : List Int} {o : Bool} (h : ∀ i ∈ sp, 0 ≤ i ∧ i < row.length) (hl : sp.length ≤ 16777216) : m_picked [.tup (encI row), .lst o (encI sp)] = .ok (.tup (encI (sp.map fun i => row.getD i.toNat 0))) := by
  unfold m_picked fnP g_picked
  have cp : compP [2] gN pYes (pNo (pOp2 oSubs (pVar 0) (pVar 2))) [some (.tup (encI row)), some (.lst o (encI sp)), none] (encI sp) = some (sp.map fun i => .int (row.getD i.toNat 0)) :=
    compP_int _ sp fun i hi => by
      obtain ⟨h1, h2⟩ := h i hi
      obtain ⟨j, rfl⟩ := Int.eq_ofNat_of_zero_le h1
      have hj : j < row.length := by omega
      have e := atI_I hj
      have e2 : row.getD (Int.toNat (j : Int)) 0 = row[j] := by rw [Int.toNat_natCast, List.getD_eq_getElem?_getD, List.getElem?_eq_getElem hj]; rfl
      simp only [sSeq_ap, sNil_ap, sIf_ap, sSet_ap, sRet_ap, sRetN_ap, sDrop_ap, sAsg_ap, sFor_ap, sAug_ap, sAugL_ap, sPut_ap, mT_ap, mTest_ap, mF_ap, mP_ap, mMove_ap, mFrz_ap, mFz_ap, sRaiseI_ap, mOp2_ap, mOp1_ap, mOpS_ap, mIx_ap, mIxL_ap, mIte_ap, mNot_ap, mAnd_ap, mOr_ap, mAndV_ap, mOrV_ap, msNil_ap, msCons_ap, psNil_ap, psCons_ap, pVar_ap, pC_ap, pOp1_ap, pOp2_ap, pOpS_ap, pTest_ap, pNot_ap, pAnd_ap, pOr_ap, pVal_ap, pAndV_ap, pOrV_ap, pIte_ap, pChain_ap, pNo_ap, poNone_ap, poSome_ap, pSl_ap, pSeq_ap, mSeq_ap, pRng_ap, mRng_ap, pComp_ap, mComp_ap, pYes_ap, pMet_ap, mMet_ap, mMeth_ap, pIsi_ap, pGet2_ap, aNil_ap, aSlot_ap, aVal_ap, mCallIO_ap, mCall_ap, mCallP_ap, mCallPB_ap, oIsN_ap, oNotN_ap, oAdd_int, oSub_int, ipAdd_int, ipSub_int, oLt_int, oLe_int, oGt_int, oGe_int, oLt_str, oLe_str, oGt_str, oGe_str, oEq_int, oNe_int, oEq_bl, oNeg_int, oSubs_lst, oSubs_tup, oIx_lst, oIx_tup, oLen_lst, oLen_tup, oIn_str, oNotIn_str, seqOf_str, seqOf_tup, seqOf_lst, startS, RS.seq_nx, RS.seq_ret, RS.seq_brk, RS.seq_ct, RS.seq_err, RS.seq_bad, L2.DL.R.bind_ok, L2.DL.R.bind_err, L2.DL.R.bind_bad, rS_ok, rS_err, rS_bad, Option.bind_some, Option.bind_none, Option.map_some, Option.map_none, Option.join_some, gN, noOwn, noOwns, noObj, noObjs, noSh, noShs, frz, frzs, List.map_cons, List.map_nil, List.getElem?_cons_zero, List.getElem?_cons_succ, List.set_cons_zero, List.set_cons_succ, List.length_cons, List.length_nil, List.cons_append, List.nil_append, List.replicate, setS_nil, setS_cons, gsNil, gsCons, gTn, Bool.and_true, Bool.true_and, Bool.and_false, Bool.false_and, Bool.or_true, Bool.true_or, Bool.or_false, Bool.false_or, Bool.not_true, Bool.not_false, Bool.and_self, if_true, if_false, Bool.false_eq_true, reduceIte, decide_true, decide_false, callIO, callPB, gatherA, backA, List.take_succ_cons, List.take_zero, atI0, atI1, atI2, atI3, Nat.reduceAdd, Nat.reduceSub, Int.reduceLT, Int.reduceLE, Int.reduceNeg, Int.reduceAdd, Int.reduceSub, Int.reduceMul, Nat.reduceLT, Nat.reduceLeDiff, Int.reduceEq, Int.reduceBEq, e, e2]
  have w2 : ∀ a b c, wipeS [a, b, c] [2] = [a, b, none] := fun _ _ _ => rfl
  have lz : (sp.map fun i => Val.int (row.getD i.toNat 0)).length ≤ sizeLine := by rw [List.length_map, sizeLine_eq]; exact hl
  have ot : oTuple [.lst true (sp.map fun i => Val.int (row.getD i.toNat 0))] = some (.tup (encI (sp.map fun i => row.getD i.toNat 0))) := by
    have : (sp.map fun i => Val.int (row.getD i.toNat 0)) = encI (sp.map fun i => row.getD i.toNat 0) := by simp only [encI, List.map_map, Function.comp_def]
    rw [this]
    simp only [oTuple, noOwns_I, if_true]
  simp only [sSeq_ap, sNil_ap, sIf_ap, sSet_ap, sRet_ap, sRetN_ap, sDrop_ap, sAsg_ap, sFor_ap, sAug_ap, sAugL_ap, sPut_ap, mT_ap, mTest_ap, mF_ap, mP_ap, mMove_ap, mFrz_ap, mFz_ap, sRaiseI_ap, mOp2_ap, mOp1_ap, mOpS_ap, mIx_ap, mIxL_ap, mIte_ap, mNot_ap, mAnd_ap, mOr_ap, mAndV_ap, mOrV_ap, msNil_ap, msCons_ap, psNil_ap, psCons_ap, pVar_ap, pC_ap, pOp1_ap, pOp2_ap, pOpS_ap, pTest_ap, pNot_ap, pAnd_ap, pOr_ap, pVal_ap, pAndV_ap, pOrV_ap, pIte_ap, pChain_ap, pNo_ap, poNone_ap, poSome_ap, pSl_ap, pSeq_ap, mSeq_ap, pRng_ap, mRng_ap, pComp_ap, mComp_ap, pYes_ap, pMet_ap, mMet_ap, mMeth_ap, pIsi_ap, pGet2_ap, aNil_ap, aSlot_ap, aVal_ap, mCallIO_ap, mCall_ap, mCallP_ap, mCallPB_ap, oIsN_ap, oNotN_ap, oAdd_int, oSub_int, ipAdd_int, ipSub_int, oLt_int, oLe_int, oGt_int, oGe_int, oLt_str, oLe_str, oGt_str, oGe_str, oEq_int, oNe_int, oEq_bl, oNeg_int, oSubs_lst, oSubs_tup, oIx_lst, oIx_tup, oLen_lst, oLen_tup, oIn_str, oNotIn_str, seqOf_str, seqOf_tup, seqOf_lst, startS, RS.seq_nx, RS.seq_ret, RS.seq_brk, RS.seq_ct, RS.seq_err, RS.seq_bad, L2.DL.R.bind_ok, L2.DL.R.bind_err, L2.DL.R.bind_bad, rS_ok, rS_err, rS_bad, Option.bind_some, Option.bind_none, Option.map_some, Option.map_none, Option.join_some, gN, noOwn, noOwns, noObj, noObjs, noSh, noShs, frz, frzs, List.map_cons, List.map_nil, List.getElem?_cons_zero, List.getElem?_cons_succ, List.set_cons_zero, List.set_cons_succ, List.length_cons, List.length_nil, List.cons_append, List.nil_append, List.replicate, setS_nil, setS_cons, gsNil, gsCons, gTn, Bool.and_true, Bool.true_and, Bool.and_false, Bool.false_and, Bool.or_true, Bool.true_or, Bool.or_false, Bool.false_or, Bool.not_true, Bool.not_false, Bool.and_self, if_true, if_false, Bool.false_eq_true, reduceIte, decide_true, decide_false, callIO, callPB, gatherA, backA, List.take_succ_cons, List.take_zero, atI0, atI1, atI2, atI3, Nat.reduceAdd, Nat.reduceSub, Int.reduceLT, Int.reduceLE, Int.reduceNeg, Int.reduceAdd, Int.reduceSub, Int.reduceMul, Nat.reduceLT, Nat.reduceLeDiff, Int.reduceEq, Int.reduceBEq, w2, cp, lz, ot]
def shareR (room : List (List Nat)) (row : List Int) (part : List (List Nat)) : List Int := part.map fun n => row.getD (room.idxOf n) 0
theorem idx_lt {n : List Nat} {room : List (List Nat)} (h : n ∈ room) : room.idxOf n < room.length := List.idxOf_lt_length_of_mem h
theorem share_spec {room part : List (List Nat)} {row : List Int} (hr : room.length = row.length) (hl : part.length ≤ 16777216) : m_share [.tpz (encN room), .tup (encI row), .tpz (encN part)] = if inAll part room = true then .ok (.tup (encI (shareR room row part))) else .err "BadRoom" none := by
  unfold m_share fnP g_share
  by_cases h : inAll part room = true
  · have pk := picked_spec (row := row) (sp := spots room part) (o := false) (fun i hi => by
      obtain ⟨n, hn, rfl⟩ := List.mem_map.mp hi
      have := idx_lt (of_decide_eq_true (List.all_eq_true.mp h n hn))
      omega) (by simp only [spots, List.length_map]; exact hl)
    have e : (spots room part).map (fun i => row.getD i.toNat 0) = shareR room row part := by
      simp only [spots, shareR, List.map_map, Function.comp_def, Int.toNat_natCast]
    rw [e] at pk
    simp only [sSeq_ap, sNil_ap, sIf_ap, sSet_ap, sRet_ap, sRetN_ap, sDrop_ap, sAsg_ap, sFor_ap, sAug_ap, sAugL_ap, sPut_ap, mT_ap, mTest_ap, mF_ap, mP_ap, mMove_ap, mFrz_ap, mFz_ap, sRaiseI_ap, mOp2_ap, mOp1_ap, mOpS_ap, mIx_ap, mIxL_ap, mIte_ap, mNot_ap, mAnd_ap, mOr_ap, mAndV_ap, mOrV_ap, msNil_ap, msCons_ap, psNil_ap, psCons_ap, pVar_ap, pC_ap, pOp1_ap, pOp2_ap, pOpS_ap, pTest_ap, pNot_ap, pAnd_ap, pOr_ap, pVal_ap, pAndV_ap, pOrV_ap, pIte_ap, pChain_ap, pNo_ap, poNone_ap, poSome_ap, pSl_ap, pSeq_ap, mSeq_ap, pRng_ap, mRng_ap, pComp_ap, mComp_ap, pYes_ap, pMet_ap, mMet_ap, mMeth_ap, pIsi_ap, pGet2_ap, aNil_ap, aSlot_ap, aVal_ap, mCallIO_ap, mCall_ap, mCallP_ap, mCallPB_ap, oIsN_ap, oNotN_ap, oAdd_int, oSub_int, ipAdd_int, ipSub_int, oLt_int, oLe_int, oGt_int, oGe_int, oLt_str, oLe_str, oGt_str, oGe_str, oEq_int, oNe_int, oEq_bl, oNeg_int, oSubs_lst, oSubs_tup, oIx_lst, oIx_tup, oLen_lst, oLen_tup, oIn_str, oNotIn_str, seqOf_str, seqOf_tup, seqOf_lst, startS, RS.seq_nx, RS.seq_ret, RS.seq_brk, RS.seq_ct, RS.seq_err, RS.seq_bad, L2.DL.R.bind_ok, L2.DL.R.bind_err, L2.DL.R.bind_bad, rS_ok, rS_err, rS_bad, Option.bind_some, Option.bind_none, Option.map_some, Option.map_none, Option.join_some, gN, noOwn, noOwns, noObj, noObjs, noSh, noShs, frz, frzs, List.map_cons, List.map_nil, List.getElem?_cons_zero, List.getElem?_cons_succ, List.set_cons_zero, List.set_cons_succ, List.length_cons, List.length_nil, List.cons_append, List.nil_append, List.replicate, setS_nil, setS_cons, gsNil, gsCons, gTn, Bool.and_true, Bool.true_and, Bool.and_false, Bool.false_and, Bool.or_true, Bool.true_or, Bool.or_false, Bool.false_or, Bool.not_true, Bool.not_false, Bool.and_self, if_true, if_false, Bool.false_eq_true, reduceIte, decide_true, decide_false, callIO, callPB, gatherA, backA, List.take_succ_cons, List.take_zero, atI0, atI1, atI2, atI3, Nat.reduceAdd, Nat.reduceSub, Int.reduceLT, Int.reduceLE, Int.reduceNeg, Int.reduceAdd, Int.reduceSub, Int.reduceMul, Nat.reduceLT, Nat.reduceLeDiff, Int.reduceEq, Int.reduceBEq, noOwns_I, noOwns_N, noObjs_N, noObjs_I, frzs_N, frzs_I, places_spec hl, h, noShs_I, pk]
  · have h' : inAll part room = false := by cases q : inAll part room with
      | true => exact absurd q h
      | false => rfl
    simp only [sSeq_ap, sNil_ap, sIf_ap, sSet_ap, sRet_ap, sRetN_ap, sDrop_ap, sAsg_ap, sFor_ap, sAug_ap, sAugL_ap, sPut_ap, mT_ap, mTest_ap, mF_ap, mP_ap, mMove_ap, mFrz_ap, mFz_ap, sRaiseI_ap, mOp2_ap, mOp1_ap, mOpS_ap, mIx_ap, mIxL_ap, mIte_ap, mNot_ap, mAnd_ap, mOr_ap, mAndV_ap, mOrV_ap, msNil_ap, msCons_ap, psNil_ap, psCons_ap, pVar_ap, pC_ap, pOp1_ap, pOp2_ap, pOpS_ap, pTest_ap, pNot_ap, pAnd_ap, pOr_ap, pVal_ap, pAndV_ap, pOrV_ap, pIte_ap, pChain_ap, pNo_ap, poNone_ap, poSome_ap, pSl_ap, pSeq_ap, mSeq_ap, pRng_ap, mRng_ap, pComp_ap, mComp_ap, pYes_ap, pMet_ap, mMet_ap, mMeth_ap, pIsi_ap, pGet2_ap, aNil_ap, aSlot_ap, aVal_ap, mCallIO_ap, mCall_ap, mCallP_ap, mCallPB_ap, oIsN_ap, oNotN_ap, oAdd_int, oSub_int, ipAdd_int, ipSub_int, oLt_int, oLe_int, oGt_int, oGe_int, oLt_str, oLe_str, oGt_str, oGe_str, oEq_int, oNe_int, oEq_bl, oNeg_int, oSubs_lst, oSubs_tup, oIx_lst, oIx_tup, oLen_lst, oLen_tup, oIn_str, oNotIn_str, seqOf_str, seqOf_tup, seqOf_lst, startS, RS.seq_nx, RS.seq_ret, RS.seq_brk, RS.seq_ct, RS.seq_err, RS.seq_bad, L2.DL.R.bind_ok, L2.DL.R.bind_err, L2.DL.R.bind_bad, rS_ok, rS_err, rS_bad, Option.bind_some, Option.bind_none, Option.map_some, Option.map_none, Option.join_some, gN, noOwn, noOwns, noObj, noObjs, noSh, noShs, frz, frzs, List.map_cons, List.map_nil, List.getElem?_cons_zero, List.getElem?_cons_succ, List.set_cons_zero, List.set_cons_succ, List.length_cons, List.length_nil, List.cons_append, List.nil_append, List.replicate, setS_nil, setS_cons, gsNil, gsCons, gTn, Bool.and_true, Bool.true_and, Bool.and_false, Bool.false_and, Bool.or_true, Bool.true_or, Bool.or_false, Bool.false_or, Bool.not_true, Bool.not_false, Bool.and_self, if_true, if_false, Bool.false_eq_true, reduceIte, decide_true, decide_false, callIO, callPB, gatherA, backA, List.take_succ_cons, List.take_zero, atI0, atI1, atI2, atI3, Nat.reduceAdd, Nat.reduceSub, Int.reduceLT, Int.reduceLE, Int.reduceNeg, Int.reduceAdd, Int.reduceSub, Int.reduceMul, Nat.reduceLT, Nat.reduceLeDiff, Int.reduceEq, Int.reduceBEq, noOwns_I, noOwns_N, noObjs_N, noObjs_I, frzs_N, frzs_I, places_spec hl, h', plSh]
theorem told_spec {room part : List (List Nat)} {row : List Int} (hr : room.length = row.length) (hl : part.length ≤ 16777216) : m_law_told [.tpz (encN room), .tup (encI row), .tpz (encN part)] = .ok (if inAll part room = true then .tup (encI (shareR room row part)) else .non) := by
  unfold m_law_told fnP g_law_told
  have sh := share_spec hr hl
  by_cases h : inAll part room = true
  · simp only [h, if_true] at sh
    simp only [sSeq_ap, sNil_ap, sIf_ap, sSet_ap, sRet_ap, sRetN_ap, sDrop_ap, sAsg_ap, sFor_ap, sAug_ap, sAugL_ap, sPut_ap, mT_ap, mTest_ap, mF_ap, mP_ap, mMove_ap, mFrz_ap, mFz_ap, sRaiseI_ap, mOp2_ap, mOp1_ap, mOpS_ap, mIx_ap, mIxL_ap, mIte_ap, mNot_ap, mAnd_ap, mOr_ap, mAndV_ap, mOrV_ap, msNil_ap, msCons_ap, psNil_ap, psCons_ap, pVar_ap, pC_ap, pOp1_ap, pOp2_ap, pOpS_ap, pTest_ap, pNot_ap, pAnd_ap, pOr_ap, pVal_ap, pAndV_ap, pOrV_ap, pIte_ap, pChain_ap, pNo_ap, poNone_ap, poSome_ap, pSl_ap, pSeq_ap, mSeq_ap, pRng_ap, mRng_ap, pComp_ap, mComp_ap, pYes_ap, pMet_ap, mMet_ap, mMeth_ap, pIsi_ap, pGet2_ap, aNil_ap, aSlot_ap, aVal_ap, mCallIO_ap, mCall_ap, mCallP_ap, mCallPB_ap, oIsN_ap, oNotN_ap, oAdd_int, oSub_int, ipAdd_int, ipSub_int, oLt_int, oLe_int, oGt_int, oGe_int, oLt_str, oLe_str, oGt_str, oGe_str, oEq_int, oNe_int, oEq_bl, oNeg_int, oSubs_lst, oSubs_tup, oIx_lst, oIx_tup, oLen_lst, oLen_tup, oIn_str, oNotIn_str, seqOf_str, seqOf_tup, seqOf_lst, startS, RS.seq_nx, RS.seq_ret, RS.seq_brk, RS.seq_ct, RS.seq_err, RS.seq_bad, L2.DL.R.bind_ok, L2.DL.R.bind_err, L2.DL.R.bind_bad, rS_ok, rS_err, rS_bad, Option.bind_some, Option.bind_none, Option.map_some, Option.map_none, Option.join_some, gN, noOwn, noOwns, noObj, noObjs, noSh, noShs, frz, frzs, List.map_cons, List.map_nil, List.getElem?_cons_zero, List.getElem?_cons_succ, List.set_cons_zero, List.set_cons_succ, List.length_cons, List.length_nil, List.cons_append, List.nil_append, List.replicate, setS_nil, setS_cons, gsNil, gsCons, gTn, Bool.and_true, Bool.true_and, Bool.and_false, Bool.false_and, Bool.or_true, Bool.true_or, Bool.or_false, Bool.false_or, Bool.not_true, Bool.not_false, Bool.and_self, if_true, if_false, Bool.false_eq_true, reduceIte, decide_true, decide_false, callIO, callPB, gatherA, backA, List.take_succ_cons, List.take_zero, atI0, atI1, atI2, atI3, Nat.reduceAdd, Nat.reduceSub, Int.reduceLT, Int.reduceLE, Int.reduceNeg, Int.reduceAdd, Int.reduceSub, Int.reduceMul, Nat.reduceLT, Nat.reduceLeDiff, Int.reduceEq, Int.reduceBEq, sTry, noOwns_I, noOwns_N, noObjs_N, noObjs_I, frzs_N, frzs_I, sh, h, noShs_I]
  · have h' : inAll part room = false := by cases q : inAll part room with
      | true => exact absurd q h
      | false => rfl
    simp only [h', Bool.false_eq_true, if_false] at sh
    have ex : excT [("BadRoom", true)] "BadRoom" = some true := rfl
    simp only [sSeq_ap, sNil_ap, sIf_ap, sSet_ap, sRet_ap, sRetN_ap, sDrop_ap, sAsg_ap, sFor_ap, sAug_ap, sAugL_ap, sPut_ap, mT_ap, mTest_ap, mF_ap, mP_ap, mMove_ap, mFrz_ap, mFz_ap, sRaiseI_ap, mOp2_ap, mOp1_ap, mOpS_ap, mIx_ap, mIxL_ap, mIte_ap, mNot_ap, mAnd_ap, mOr_ap, mAndV_ap, mOrV_ap, msNil_ap, msCons_ap, psNil_ap, psCons_ap, pVar_ap, pC_ap, pOp1_ap, pOp2_ap, pOpS_ap, pTest_ap, pNot_ap, pAnd_ap, pOr_ap, pVal_ap, pAndV_ap, pOrV_ap, pIte_ap, pChain_ap, pNo_ap, poNone_ap, poSome_ap, pSl_ap, pSeq_ap, mSeq_ap, pRng_ap, mRng_ap, pComp_ap, mComp_ap, pYes_ap, pMet_ap, mMet_ap, mMeth_ap, pIsi_ap, pGet2_ap, aNil_ap, aSlot_ap, aVal_ap, mCallIO_ap, mCall_ap, mCallP_ap, mCallPB_ap, oIsN_ap, oNotN_ap, oAdd_int, oSub_int, ipAdd_int, ipSub_int, oLt_int, oLe_int, oGt_int, oGe_int, oLt_str, oLe_str, oGt_str, oGe_str, oEq_int, oNe_int, oEq_bl, oNeg_int, oSubs_lst, oSubs_tup, oIx_lst, oIx_tup, oLen_lst, oLen_tup, oIn_str, oNotIn_str, seqOf_str, seqOf_tup, seqOf_lst, startS, RS.seq_nx, RS.seq_ret, RS.seq_brk, RS.seq_ct, RS.seq_err, RS.seq_bad, L2.DL.R.bind_ok, L2.DL.R.bind_err, L2.DL.R.bind_bad, rS_ok, rS_err, rS_bad, Option.bind_some, Option.bind_none, Option.map_some, Option.map_none, Option.join_some, gN, noOwn, noOwns, noObj, noObjs, noSh, noShs, frz, frzs, List.map_cons, List.map_nil, List.getElem?_cons_zero, List.getElem?_cons_succ, List.set_cons_zero, List.set_cons_succ, List.length_cons, List.length_nil, List.cons_append, List.nil_append, List.replicate, setS_nil, setS_cons, gsNil, gsCons, gTn, Bool.and_true, Bool.true_and, Bool.and_false, Bool.false_and, Bool.or_true, Bool.true_or, Bool.or_false, Bool.false_or, Bool.not_true, Bool.not_false, Bool.and_self, if_true, if_false, Bool.false_eq_true, reduceIte, decide_true, decide_false, callIO, callPB, gatherA, backA, List.take_succ_cons, List.take_zero, atI0, atI1, atI2, atI3, Nat.reduceAdd, Nat.reduceSub, Int.reduceLT, Int.reduceLE, Int.reduceNeg, Int.reduceAdd, Int.reduceSub, Int.reduceMul, Nat.reduceLT, Nat.reduceLeDiff, Int.reduceEq, Int.reduceBEq, sTry, hdRun, nES, ex, noOwns_I, noOwns_N, noObjs_N, noObjs_I, frzs_N, frzs_I, sh, h', plSh]
end RT

namespace RT
open L2 PyProof.Rows PySem.Spec PySem L2.DL SX
/-! ### drawn questions, drawn parts -/
theorem oTupleZ_N (o : Bool) (ss : List (List Nat)) : oTupleZ [.lst o (encN ss)] = some (.tpz (encN ss)) := by simp only [oTupleZ, noOwns_N, if_true]
theorem questions_specN {nums : List Int} {at_ left salt : Int} (h0 : 0 ≤ at_) :
    ∃ (at' left' : Int) (ss : List (List Nat)), 0 ≤ at' ∧ 1 ≤ ss.length ∧ ss.length ≤ 6 ∧ ((∀ s ∈ ss, nm8 s) ∧ ss.Nodup) ∧ m_law_questions [bagV nums at_ left salt] = .ok (.tpz (encN ss)) [some (bagV nums at' left' salt)] := by
  obtain ⟨at1, left1, r1, h1, hr0, hr1, e1⟩ := pull_spec (nums := nums) (left := left) (salt := salt) (many := 6) h0 (by decide) (by decide)
  obtain ⟨at2, left2, ss, h2, hl, hs, e2⟩ := names_specN (nums := nums) (left := left1) (salt := salt) (many := 1 + r1) h1 (by omega) (by omega)
  have hl2 : (sortN ss).length = ss.length := (sortN_perm ss).length_eq
  refine ⟨at2, left2, sortN ss, h2, by omega, by omega, ⟨fun s hm => hs.1 s ((sortN_perm ss).mem_iff.mp hm), (sortN_perm ss).nodup_iff.mpr hs.2⟩, ?_⟩
  unfold m_law_questions fnIO g_law_questions
  simp only [sSeq_ap, sNil_ap, sIf_ap, sSet_ap, sRet_ap, sRetN_ap, sDrop_ap, sAsg_ap, sFor_ap, sAug_ap, sAugL_ap, sPut_ap, mT_ap, mTest_ap, mF_ap, mP_ap, mMove_ap, mFrz_ap, mFz_ap, sRaiseI_ap, mOp2_ap, mOp1_ap, mOpS_ap, mIx_ap, mIxL_ap, mIte_ap, mNot_ap, mAnd_ap, mOr_ap, mAndV_ap, mOrV_ap, msNil_ap, msCons_ap, psNil_ap, psCons_ap, pVar_ap, pC_ap, pOp1_ap, pOp2_ap, pOpS_ap, pTest_ap, pNot_ap, pAnd_ap, pOr_ap, pVal_ap, pAndV_ap, pOrV_ap, pIte_ap, pChain_ap, pNo_ap, poNone_ap, poSome_ap, pSl_ap, pSeq_ap, mSeq_ap, pRng_ap, mRng_ap, pComp_ap, mComp_ap, pYes_ap, pMet_ap, mMet_ap, mMeth_ap, pIsi_ap, pGet2_ap, aNil_ap, aSlot_ap, aVal_ap, mCallIO_ap, mCall_ap, mCallP_ap, mCallPB_ap, oIsN_ap, oNotN_ap, oAdd_int, oSub_int, ipAdd_int, ipSub_int, oLt_int, oLe_int, oGt_int, oGe_int, oLt_str, oLe_str, oGt_str, oGe_str, oEq_int, oNe_int, oEq_bl, oNeg_int, oSubs_lst, oSubs_tup, oIx_lst, oIx_tup, oLen_lst, oLen_tup, oIn_str, oNotIn_str, seqOf_str, seqOf_tup, seqOf_lst, startS, RS.seq_nx, RS.seq_ret, RS.seq_brk, RS.seq_ct, RS.seq_err, RS.seq_bad, L2.DL.R.bind_ok, L2.DL.R.bind_err, L2.DL.R.bind_bad, rS_ok, rS_err, rS_bad, Option.bind_some, Option.bind_none, Option.map_some, Option.map_none, Option.join_some, gN, noOwn, noOwns, noObj, noObjs, noSh, noShs, frz, frzs, List.map_cons, List.map_nil, List.getElem?_cons_zero, List.getElem?_cons_succ, List.set_cons_zero, List.set_cons_succ, List.length_cons, List.length_nil, List.cons_append, List.nil_append, List.replicate, setS_nil, setS_cons, gsNil, gsCons, gTn, Bool.and_true, Bool.true_and, Bool.and_false, Bool.false_and, Bool.or_true, Bool.true_or, Bool.or_false, Bool.false_or, Bool.not_true, Bool.not_false, Bool.and_self, if_true, if_false, Bool.false_eq_true, reduceIte, decide_true, decide_false, callIO, callPB, gatherA, backA, List.take_succ_cons, List.take_zero, atI0, atI1, atI2, atI3, Nat.reduceAdd, Nat.reduceSub, Int.reduceLT, Int.reduceLE, Int.reduceNeg, Int.reduceAdd, Int.reduceSub, Int.reduceMul, Nat.reduceLT, Nat.reduceLeDiff, Int.reduceEq, Int.reduceBEq, e1, e2, oSorted_N, oTupleZ_N]
theorem questions_spec {nums : List Int} {at_ left salt : Int} (h0 : 0 ≤ at_) :
    ∃ (at' left' : Int) (ss : List (List Nat)), 0 ≤ at' ∧ 1 ≤ ss.length ∧ ss.length ≤ 6 ∧ (∀ s ∈ ss, nm8 s) ∧ m_law_questions [bagV nums at_ left salt] = .ok (.tpz (encN ss)) [some (bagV nums at' left' salt)] := by
  obtain ⟨a, l, ss, h1, h2, h3, h4, h5⟩ := questions_specN (nums := nums) (left := left) (salt := salt) h0
  exact ⟨a, l, ss, h1, h2, h3, h4.1, h5⟩
theorem oShr_int {i j : Int} (h : 0 ≤ j) : oShr (.int i) (.int j) = some (.int (i / 2 ^ j.toNat)) := by simp only [oShr, oIntC, decide_eq_true h, if_true]
theorem part_loop {a b d e : Option Val} : ∀ (l : List (List Nat)) (m : Int) (x : Option Val), ∃ x', forL [3] gN l1_law_part (encN l) [a, b, some (.int m), x, d, e] = .nx [a, b, some (.int (m * 2 ^ l.length)), x', d, e]
  | [], m, x => ⟨x, by simp only [encN_nil, forL, List.length_nil, Int.pow_zero, Int.mul_one]⟩
  | k :: l, m, x => by
    obtain ⟨x', ih⟩ := part_loop (a := a) (b := b) (d := d) (e := e) l (m * 2) (some (.str (S k)))
    refine ⟨x', ?_⟩
    rw [encN_cons, forL]
    simp only [sSeq_ap, sNil_ap, sIf_ap, sSet_ap, sRet_ap, sRetN_ap, sDrop_ap, sAsg_ap, sFor_ap, sAug_ap, sAugL_ap, sPut_ap, mT_ap, mTest_ap, mF_ap, mP_ap, mMove_ap, mFrz_ap, mFz_ap, sRaiseI_ap, mOp2_ap, mOp1_ap, mOpS_ap, mIx_ap, mIxL_ap, mIte_ap, mNot_ap, mAnd_ap, mOr_ap, mAndV_ap, mOrV_ap, msNil_ap, msCons_ap, psNil_ap, psCons_ap, pVar_ap, pC_ap, pOp1_ap, pOp2_ap, pOpS_ap, pTest_ap, pNot_ap, pAnd_ap, pOr_ap, pVal_ap, pAndV_ap, pOrV_ap, pIte_ap, pChain_ap, pNo_ap, poNone_ap, poSome_ap, pSl_ap, pSeq_ap, mSeq_ap, pRng_ap, mRng_ap, pComp_ap, mComp_ap, pYes_ap, pMet_ap, mMet_ap, mMeth_ap, pIsi_ap, pGet2_ap, aNil_ap, aSlot_ap, aVal_ap, mCallIO_ap, mCall_ap, mCallP_ap, mCallPB_ap, oIsN_ap, oNotN_ap, oAdd_int, oSub_int, ipAdd_int, ipSub_int, oLt_int, oLe_int, oGt_int, oGe_int, oLt_str, oLe_str, oGt_str, oGe_str, oEq_int, oNe_int, oEq_bl, oNeg_int, oSubs_lst, oSubs_tup, oIx_lst, oIx_tup, oLen_lst, oLen_tup, oIn_str, oNotIn_str, seqOf_str, seqOf_tup, seqOf_lst, startS, RS.seq_nx, RS.seq_ret, RS.seq_brk, RS.seq_ct, RS.seq_err, RS.seq_bad, L2.DL.R.bind_ok, L2.DL.R.bind_err, L2.DL.R.bind_bad, rS_ok, rS_err, rS_bad, Option.bind_some, Option.bind_none, Option.map_some, Option.map_none, Option.join_some, gN, noOwn, noOwns, noObj, noObjs, noSh, noShs, frz, frzs, List.map_cons, List.map_nil, List.getElem?_cons_zero, List.getElem?_cons_succ, List.set_cons_zero, List.set_cons_succ, List.length_cons, List.length_nil, List.cons_append, List.nil_append, List.replicate, setS_nil, setS_cons, gsNil, gsCons, gTn, Bool.and_true, Bool.true_and, Bool.and_false, Bool.false_and, Bool.or_true, Bool.true_or, Bool.or_false, Bool.false_or, Bool.not_true, Bool.not_false, Bool.and_self, if_true, if_false, Bool.false_eq_true, reduceIte, decide_true, decide_false, callIO, callPB, gatherA, backA, List.take_succ_cons, List.take_zero, atI0, atI1, atI2, atI3, Nat.reduceAdd, Nat.reduceSub, Int.reduceLT, Int.reduceLE, Int.reduceNeg, Int.reduceAdd, Int.reduceSub, Int.reduceMul, Nat.reduceLT, Nat.reduceLeDiff, Int.reduceEq, Int.reduceBEq, l1_law_part, oMul_lit]
    rw [show m * 2 ^ (l.length + 1) = m * 2 * 2 ^ l.length by rw [Int.pow_succ, Int.mul_comm (2 ^ l.length) 2, Int.mul_assoc]]
    exact ih
def bit (mask : Int) (k : Nat) : Bool := decide (mask / 2 ^ k % 2 = 1)
def pick (mask : Int) (ss : List (List Nat)) : List (List Nat) := ((List.range ss.length).filter (bit mask)).map fun k => ss.getD k []
theorem pick_mem {mask : Int} {ss : List (List Nat)} {s : List Nat} (h : s ∈ pick mask ss) : s ∈ ss := by
  obtain ⟨k, hk, rfl⟩ := List.mem_map.mp h
  exact getD_mem (List.mem_range.mp (List.mem_filter.mp hk).1)
theorem pick_len (mask : Int) (ss : List (List Nat)) : (pick mask ss).length ≤ ss.length := by
  rw [pick, List.length_map]
  exact Nat.le_trans (List.length_filter_le _ _) (by simp)
theorem pow2_small {n : Nat} (h : n ≤ 20) : (0 : Int) < 2 ^ n ∧ (2 : Int) ^ n < 1073741824 := by
  have h1 : (2 : Nat) ^ n ≤ 2 ^ 20 := Nat.pow_le_pow_right (by decide) h
  have h2 : 0 < (2 : Nat) ^ n := Nat.pow_pos (by decide)
  have e : ((2 : Nat) ^ n : Nat) = (2 : Int) ^ n := by simp
  have h3 : (2 : Nat) ^ 20 = 1048576 := rfl
  omega
theorem part_spec {nums : List Int} {at_ left salt : Int} {ss : List (List Nat)} (h0 : 0 ≤ at_) (hl : ss.length ≤ 20) :
    ∃ (at' left' mask : Int), 0 ≤ at' ∧ m_law_part [bagV nums at_ left salt, .tpz (encN ss)] = .ok (.tpz (encN (pick mask ss))) [some (bagV nums at' left' salt), some (.tpz (encN ss))] := by
  obtain ⟨p1, p2⟩ := pow2_small hl
  obtain ⟨at1, left1, mask, h1, hr0, hr1, e1⟩ := pull_spec (nums := nums) (left := left) (salt := salt) (many := 2 ^ ss.length) h0 p1 p2
  refine ⟨at1, left1, mask, h1, ?_⟩
  unfold m_law_part fnIO g_law_part
  obtain ⟨x', el⟩ := part_loop (a := some (bagV nums at_ left salt)) (b := some (.tpz (encN ss))) (d := none) (e := none) ss 1 none
  rw [Int.one_mul] at el
  have r1 := rngOf_one (j := ss.length) (by omega) (by omega)
  have cp : ∀ a x3 c, compP [5] gN (pTest (pOp2 oEq (pOp2 oMod (pOp2 oShr (pVar 4) (pVar 5)) (pC (.int 2))) (pC (.int 1)))) (pNo (pOp2 oSubs (pVar 1) (pVar 5))) [a, some (.tpz (encN ss)), c, x3, some (.int mask), none] (rng 0 ss.length) = some (encN (pick mask ss)) := fun a x3 c => by
    rw [rng_nat, compP_filter (fun k : Nat => Val.int (k : Int)) (fun k => .str (S (ss.getD k []))) (bit mask) _ fun k hk => ?_]
    · simp only [pick, encN, List.map_map, Function.comp_def]
    · have hk' := List.mem_range.mp hk
      have ea := getD_at hk'
      have q : (mask / 2 ^ k % 2 == 1) = bit mask k := by
        unfold bit
        by_cases h : mask / 2 ^ k % 2 = 1
        · rw [h]; rfl
        · rw [decide_eq_false h]; exact beq_eq_false_iff_ne.mpr h
      refine ⟨[.int k], rfl, ?_, fun _ => ?_⟩
      · simp only [sSeq_ap, sNil_ap, sIf_ap, sSet_ap, sRet_ap, sRetN_ap, sDrop_ap, sAsg_ap, sFor_ap, sAug_ap, sAugL_ap, sPut_ap, mT_ap, mTest_ap, mF_ap, mP_ap, mMove_ap, mFrz_ap, mFz_ap, sRaiseI_ap, mOp2_ap, mOp1_ap, mOpS_ap, mIx_ap, mIxL_ap, mIte_ap, mNot_ap, mAnd_ap, mOr_ap, mAndV_ap, mOrV_ap, msNil_ap, msCons_ap, psNil_ap, psCons_ap, pVar_ap, pC_ap, pOp1_ap, pOp2_ap, pOpS_ap, pTest_ap, pNot_ap, pAnd_ap, pOr_ap, pVal_ap, pAndV_ap, pOrV_ap, pIte_ap, pChain_ap, pNo_ap, poNone_ap, poSome_ap, pSl_ap, pSeq_ap, mSeq_ap, pRng_ap, mRng_ap, pComp_ap, mComp_ap, pYes_ap, pMet_ap, mMet_ap, mMeth_ap, pIsi_ap, pGet2_ap, aNil_ap, aSlot_ap, aVal_ap, mCallIO_ap, mCall_ap, mCallP_ap, mCallPB_ap, oIsN_ap, oNotN_ap, oAdd_int, oSub_int, ipAdd_int, ipSub_int, oLt_int, oLe_int, oGt_int, oGe_int, oLt_str, oLe_str, oGt_str, oGe_str, oEq_int, oNe_int, oEq_bl, oNeg_int, oSubs_lst, oSubs_tup, oIx_lst, oIx_tup, oLen_lst, oLen_tup, oIn_str, oNotIn_str, seqOf_str, seqOf_tup, seqOf_lst, startS, RS.seq_nx, RS.seq_ret, RS.seq_brk, RS.seq_ct, RS.seq_err, RS.seq_bad, L2.DL.R.bind_ok, L2.DL.R.bind_err, L2.DL.R.bind_bad, rS_ok, rS_err, rS_bad, Option.bind_some, Option.bind_none, Option.map_some, Option.map_none, Option.join_some, gN, noOwn, noOwns, noObj, noObjs, noSh, noShs, frz, frzs, List.map_cons, List.map_nil, List.getElem?_cons_zero, List.getElem?_cons_succ, List.set_cons_zero, List.set_cons_succ, List.length_cons, List.length_nil, List.cons_append, List.nil_append, List.replicate, setS_nil, setS_cons, gsNil, gsCons, gTn, Bool.and_true, Bool.true_and, Bool.and_false, Bool.false_and, Bool.or_true, Bool.true_or, Bool.or_false, Bool.false_or, Bool.not_true, Bool.not_false, Bool.and_self, if_true, if_false, Bool.false_eq_true, reduceIte, decide_true, decide_false, callIO, callPB, gatherA, backA, List.take_succ_cons, List.take_zero, atI0, atI1, atI2, atI3, Nat.reduceAdd, Nat.reduceSub, Int.reduceLT, Int.reduceLE, Int.reduceNeg, Int.reduceAdd, Int.reduceSub, Int.reduceMul, Nat.reduceLT, Nat.reduceLeDiff, Int.reduceEq, Int.reduceBEq, oShr_int (Int.natCast_nonneg k), Int.toNat_natCast, oMod_int, q]
      · simp only [sSeq_ap, sNil_ap, sIf_ap, sSet_ap, sRet_ap, sRetN_ap, sDrop_ap, sAsg_ap, sFor_ap, sAug_ap, sAugL_ap, sPut_ap, mT_ap, mTest_ap, mF_ap, mP_ap, mMove_ap, mFrz_ap, mFz_ap, sRaiseI_ap, mOp2_ap, mOp1_ap, mOpS_ap, mIx_ap, mIxL_ap, mIte_ap, mNot_ap, mAnd_ap, mOr_ap, mAndV_ap, mOrV_ap, msNil_ap, msCons_ap, psNil_ap, psCons_ap, pVar_ap, pC_ap, pOp1_ap, pOp2_ap, pOpS_ap, pTest_ap, pNot_ap, pAnd_ap, pOr_ap, pVal_ap, pAndV_ap, pOrV_ap, pIte_ap, pChain_ap, pNo_ap, poNone_ap, poSome_ap, pSl_ap, pSeq_ap, mSeq_ap, pRng_ap, mRng_ap, pComp_ap, mComp_ap, pYes_ap, pMet_ap, mMet_ap, mMeth_ap, pIsi_ap, pGet2_ap, aNil_ap, aSlot_ap, aVal_ap, mCallIO_ap, mCall_ap, mCallP_ap, mCallPB_ap, oIsN_ap, oNotN_ap, oAdd_int, oSub_int, ipAdd_int, ipSub_int, oLt_int, oLe_int, oGt_int, oGe_int, oLt_str, oLe_str, oGt_str, oGe_str, oEq_int, oNe_int, oEq_bl, oNeg_int, oSubs_lst, oSubs_tup, oIx_lst, oIx_tup, oLen_lst, oLen_tup, oIn_str, oNotIn_str, seqOf_str, seqOf_tup, seqOf_lst, startS, RS.seq_nx, RS.seq_ret, RS.seq_brk, RS.seq_ct, RS.seq_err, RS.seq_bad, L2.DL.R.bind_ok, L2.DL.R.bind_err, L2.DL.R.bind_bad, rS_ok, rS_err, rS_bad, Option.bind_some, Option.bind_none, Option.map_some, Option.map_none, Option.join_some, gN, noOwn, noOwns, noObj, noObjs, noSh, noShs, frz, frzs, List.map_cons, List.map_nil, List.getElem?_cons_zero, List.getElem?_cons_succ, List.set_cons_zero, List.set_cons_succ, List.length_cons, List.length_nil, List.cons_append, List.nil_append, List.replicate, setS_nil, setS_cons, gsNil, gsCons, gTn, Bool.and_true, Bool.true_and, Bool.and_false, Bool.false_and, Bool.or_true, Bool.true_or, Bool.or_false, Bool.false_or, Bool.not_true, Bool.not_false, Bool.and_self, if_true, if_false, Bool.false_eq_true, reduceIte, decide_true, decide_false, callIO, callPB, gatherA, backA, List.take_succ_cons, List.take_zero, atI0, atI1, atI2, atI3, Nat.reduceAdd, Nat.reduceSub, Int.reduceLT, Int.reduceLE, Int.reduceNeg, Int.reduceAdd, Int.reduceSub, Int.reduceMul, Nat.reduceLT, Nat.reduceLeDiff, Int.reduceEq, Int.reduceBEq, oSubs_tpz, ea]
  have w5 : ∀ a b c d e f, wipeS [a, b, c, d, e, f] [5] = [a, b, c, d, e, none] := fun _ _ _ _ _ _ => rfl
  have lz : (pick mask ss).length ≤ sizeLine := by rw [sizeLine_eq]; have := pick_len mask ss; omega
  simp only [sSeq_ap, sNil_ap, sIf_ap, sSet_ap, sRet_ap, sRetN_ap, sDrop_ap, sAsg_ap, sFor_ap, sAug_ap, sAugL_ap, sPut_ap, mT_ap, mTest_ap, mF_ap, mP_ap, mMove_ap, mFrz_ap, mFz_ap, sRaiseI_ap, mOp2_ap, mOp1_ap, mOpS_ap, mIx_ap, mIxL_ap, mIte_ap, mNot_ap, mAnd_ap, mOr_ap, mAndV_ap, mOrV_ap, msNil_ap, msCons_ap, psNil_ap, psCons_ap, pVar_ap, pC_ap, pOp1_ap, pOp2_ap, pOpS_ap, pTest_ap, pNot_ap, pAnd_ap, pOr_ap, pVal_ap, pAndV_ap, pOrV_ap, pIte_ap, pChain_ap, pNo_ap, poNone_ap, poSome_ap, pSl_ap, pSeq_ap, mSeq_ap, pRng_ap, mRng_ap, pComp_ap, mComp_ap, pYes_ap, pMet_ap, mMet_ap, mMeth_ap, pIsi_ap, pGet2_ap, aNil_ap, aSlot_ap, aVal_ap, mCallIO_ap, mCall_ap, mCallP_ap, mCallPB_ap, oIsN_ap, oNotN_ap, oAdd_int, oSub_int, ipAdd_int, ipSub_int, oLt_int, oLe_int, oGt_int, oGe_int, oLt_str, oLe_str, oGt_str, oGe_str, oEq_int, oNe_int, oEq_bl, oNeg_int, oSubs_lst, oSubs_tup, oIx_lst, oIx_tup, oLen_lst, oLen_tup, oIn_str, oNotIn_str, seqOf_str, seqOf_tup, seqOf_lst, startS, RS.seq_nx, RS.seq_ret, RS.seq_brk, RS.seq_ct, RS.seq_err, RS.seq_bad, L2.DL.R.bind_ok, L2.DL.R.bind_err, L2.DL.R.bind_bad, rS_ok, rS_err, rS_bad, Option.bind_some, Option.bind_none, Option.map_some, Option.map_none, Option.join_some, gN, noOwn, noOwns, noObj, noObjs, noSh, noShs, frz, frzs, List.map_cons, List.map_nil, List.getElem?_cons_zero, List.getElem?_cons_succ, List.set_cons_zero, List.set_cons_succ, List.length_cons, List.length_nil, List.cons_append, List.nil_append, List.replicate, setS_nil, setS_cons, gsNil, gsCons, gTn, Bool.and_true, Bool.true_and, Bool.and_false, Bool.false_and, Bool.or_true, Bool.true_or, Bool.or_false, Bool.false_or, Bool.not_true, Bool.not_false, Bool.and_self, if_true, if_false, Bool.false_eq_true, reduceIte, decide_true, decide_false, callIO, callPB, gatherA, backA, List.take_succ_cons, List.take_zero, atI0, atI1, atI2, atI3, Nat.reduceAdd, Nat.reduceSub, Int.reduceLT, Int.reduceLE, Int.reduceNeg, Int.reduceAdd, Int.reduceSub, Int.reduceMul, Nat.reduceLT, Nat.reduceLeDiff, Int.reduceEq, Int.reduceBEq, noOwns_N, seqOf_tpz, el, e1, oLen_tpz, encN_len, r1, w5, cp, lz, oTupleZ_N]
end RT

namespace RT
open L2 PyProof.Rows PySem.Spec PySem L2.DL SX
/-! ### what a law asks of the form -/
theorem in_call {part room : List (List Nat)} (hl : part.length ≤ 16777216) : callP m_law_in [.tpz (encN part), .tpz (encN room)] = some (.bl (inAll part room)) := by
  have cp : compP [2] gN pYes (pOp2 oIn (pVar 2) (pVar 1)) [some (.tpz (encN part)), some (.tpz (encN room)), none] (encN part) = some (part.map fun s => .bl (decide (s ∈ room))) :=
    compP_str _ part fun s _ => by simp only [sSeq_ap, sNil_ap, sIf_ap, sSet_ap, sRet_ap, sRetN_ap, sDrop_ap, sAsg_ap, sFor_ap, sAug_ap, sAugL_ap, sPut_ap, mT_ap, mTest_ap, mF_ap, mP_ap, mMove_ap, mFrz_ap, mFz_ap, sRaiseI_ap, mOp2_ap, mOp1_ap, mOpS_ap, mIx_ap, mIxL_ap, mIte_ap, mNot_ap, mAnd_ap, mOr_ap, mAndV_ap, mOrV_ap, msNil_ap, msCons_ap, psNil_ap, psCons_ap, pVar_ap, pC_ap, pOp1_ap, pOp2_ap, pOpS_ap, pTest_ap, pNot_ap, pAnd_ap, pOr_ap, pVal_ap, pAndV_ap, pOrV_ap, pIte_ap, pChain_ap, pNo_ap, poNone_ap, poSome_ap, pSl_ap, pSeq_ap, mSeq_ap, pRng_ap, mRng_ap, pComp_ap, mComp_ap, pYes_ap, pMet_ap, mMet_ap, mMeth_ap, pIsi_ap, pGet2_ap, aNil_ap, aSlot_ap, aVal_ap, mCallIO_ap, mCall_ap, mCallP_ap, mCallPB_ap, oIsN_ap, oNotN_ap, oAdd_int, oSub_int, ipAdd_int, ipSub_int, oLt_int, oLe_int, oGt_int, oGe_int, oLt_str, oLe_str, oGt_str, oGe_str, oEq_int, oNe_int, oEq_bl, oNeg_int, oSubs_lst, oSubs_tup, oIx_lst, oIx_tup, oLen_lst, oLen_tup, oIn_str, oNotIn_str, seqOf_str, seqOf_tup, seqOf_lst, startS, RS.seq_nx, RS.seq_ret, RS.seq_brk, RS.seq_ct, RS.seq_err, RS.seq_bad, L2.DL.R.bind_ok, L2.DL.R.bind_err, L2.DL.R.bind_bad, rS_ok, rS_err, rS_bad, Option.bind_some, Option.bind_none, Option.map_some, Option.map_none, Option.join_some, gN, noOwn, noOwns, noObj, noObjs, noSh, noShs, frz, frzs, List.map_cons, List.map_nil, List.getElem?_cons_zero, List.getElem?_cons_succ, List.set_cons_zero, List.set_cons_succ, List.length_cons, List.length_nil, List.cons_append, List.nil_append, List.replicate, setS_nil, setS_cons, gsNil, gsCons, gTn, Bool.and_true, Bool.true_and, Bool.and_false, Bool.false_and, Bool.or_true, Bool.true_or, Bool.or_false, Bool.false_or, Bool.not_true, Bool.not_false, Bool.and_self, if_true, if_false, Bool.false_eq_true, reduceIte, decide_true, decide_false, callIO, callPB, gatherA, backA, List.take_succ_cons, List.take_zero, atI0, atI1, atI2, atI3, Nat.reduceAdd, Nat.reduceSub, Int.reduceLT, Int.reduceLE, Int.reduceNeg, Int.reduceAdd, Int.reduceSub, Int.reduceMul, Nat.reduceLT, Nat.reduceLeDiff, Int.reduceEq, Int.reduceBEq, oIn_Nz]
  have w2 : ∀ a b c, wipeS [a, b, c] [2] = [a, b, none] := fun _ _ _ => rfl
  have lz : (part.map fun s => Val.bl (decide (s ∈ room))).length ≤ sizeLine := by rw [List.length_map, sizeLine_eq]; exact hl
  have oa := oAll_map true (fun s => decide (s ∈ room)) part
  have e : m_law_in [.tpz (encN part), .tpz (encN room)] = .ok (.bl (inAll part room)) := by
    unfold m_law_in fnP g_law_in
    simp only [sSeq_ap, sNil_ap, sIf_ap, sSet_ap, sRet_ap, sRetN_ap, sDrop_ap, sAsg_ap, sFor_ap, sAug_ap, sAugL_ap, sPut_ap, mT_ap, mTest_ap, mF_ap, mP_ap, mMove_ap, mFrz_ap, mFz_ap, sRaiseI_ap, mOp2_ap, mOp1_ap, mOpS_ap, mIx_ap, mIxL_ap, mIte_ap, mNot_ap, mAnd_ap, mOr_ap, mAndV_ap, mOrV_ap, msNil_ap, msCons_ap, psNil_ap, psCons_ap, pVar_ap, pC_ap, pOp1_ap, pOp2_ap, pOpS_ap, pTest_ap, pNot_ap, pAnd_ap, pOr_ap, pVal_ap, pAndV_ap, pOrV_ap, pIte_ap, pChain_ap, pNo_ap, poNone_ap, poSome_ap, pSl_ap, pSeq_ap, mSeq_ap, pRng_ap, mRng_ap, pComp_ap, mComp_ap, pYes_ap, pMet_ap, mMet_ap, mMeth_ap, pIsi_ap, pGet2_ap, aNil_ap, aSlot_ap, aVal_ap, mCallIO_ap, mCall_ap, mCallP_ap, mCallPB_ap, oIsN_ap, oNotN_ap, oAdd_int, oSub_int, ipAdd_int, ipSub_int, oLt_int, oLe_int, oGt_int, oGe_int, oLt_str, oLe_str, oGt_str, oGe_str, oEq_int, oNe_int, oEq_bl, oNeg_int, oSubs_lst, oSubs_tup, oIx_lst, oIx_tup, oLen_lst, oLen_tup, oIn_str, oNotIn_str, seqOf_str, seqOf_tup, seqOf_lst, startS, RS.seq_nx, RS.seq_ret, RS.seq_brk, RS.seq_ct, RS.seq_err, RS.seq_bad, L2.DL.R.bind_ok, L2.DL.R.bind_err, L2.DL.R.bind_bad, rS_ok, rS_err, rS_bad, Option.bind_some, Option.bind_none, Option.map_some, Option.map_none, Option.join_some, gN, noOwn, noOwns, noObj, noObjs, noSh, noShs, frz, frzs, List.map_cons, List.map_nil, List.getElem?_cons_zero, List.getElem?_cons_succ, List.set_cons_zero, List.set_cons_succ, List.length_cons, List.length_nil, List.cons_append, List.nil_append, List.replicate, setS_nil, setS_cons, gsNil, gsCons, gTn, Bool.and_true, Bool.true_and, Bool.and_false, Bool.false_and, Bool.or_true, Bool.true_or, Bool.or_false, Bool.false_or, Bool.not_true, Bool.not_false, Bool.and_self, if_true, if_false, Bool.false_eq_true, reduceIte, decide_true, decide_false, callIO, callPB, gatherA, backA, List.take_succ_cons, List.take_zero, atI0, atI1, atI2, atI3, Nat.reduceAdd, Nat.reduceSub, Int.reduceLT, Int.reduceLE, Int.reduceNeg, Int.reduceAdd, Int.reduceSub, Int.reduceMul, Nat.reduceLT, Nat.reduceLeDiff, Int.reduceEq, Int.reduceBEq, seqOf_tpz, w2, cp, lz, oa, inAll]
  simp only [callP, noObjs, noObj, noObjs_N, frzs, frz, frzs_N, noOwns, noOwn, noOwns_N, e, sSeq_ap, sNil_ap, sIf_ap, sSet_ap, sRet_ap, sRetN_ap, sDrop_ap, sAsg_ap, sFor_ap, sAug_ap, sAugL_ap, sPut_ap, mT_ap, mTest_ap, mF_ap, mP_ap, mMove_ap, mFrz_ap, mFz_ap, sRaiseI_ap, mOp2_ap, mOp1_ap, mOpS_ap, mIx_ap, mIxL_ap, mIte_ap, mNot_ap, mAnd_ap, mOr_ap, mAndV_ap, mOrV_ap, msNil_ap, msCons_ap, psNil_ap, psCons_ap, pVar_ap, pC_ap, pOp1_ap, pOp2_ap, pOpS_ap, pTest_ap, pNot_ap, pAnd_ap, pOr_ap, pVal_ap, pAndV_ap, pOrV_ap, pIte_ap, pChain_ap, pNo_ap, poNone_ap, poSome_ap, pSl_ap, pSeq_ap, mSeq_ap, pRng_ap, mRng_ap, pComp_ap, mComp_ap, pYes_ap, pMet_ap, mMet_ap, mMeth_ap, pIsi_ap, pGet2_ap, aNil_ap, aSlot_ap, aVal_ap, mCallIO_ap, mCall_ap, mCallP_ap, mCallPB_ap, oIsN_ap, oNotN_ap, oAdd_int, oSub_int, ipAdd_int, ipSub_int, oLt_int, oLe_int, oGt_int, oGe_int, oLt_str, oLe_str, oGt_str, oGe_str, oEq_int, oNe_int, oEq_bl, oNeg_int, oSubs_lst, oSubs_tup, oIx_lst, oIx_tup, oLen_lst, oLen_tup, oIn_str, oNotIn_str, seqOf_str, seqOf_tup, seqOf_lst, startS, RS.seq_nx, RS.seq_ret, RS.seq_brk, RS.seq_ct, RS.seq_err, RS.seq_bad, L2.DL.R.bind_ok, L2.DL.R.bind_err, L2.DL.R.bind_bad, rS_ok, rS_err, rS_bad, Option.bind_some, Option.bind_none, Option.map_some, Option.map_none, Option.join_some, gN, noOwn, noOwns, noObj, noObjs, noSh, noShs, frz, frzs, List.map_cons, List.map_nil, List.getElem?_cons_zero, List.getElem?_cons_succ, List.set_cons_zero, List.set_cons_succ, List.length_cons, List.length_nil, List.cons_append, List.nil_append, List.replicate, setS_nil, setS_cons, gsNil, gsCons, gTn, Bool.and_true, Bool.true_and, Bool.and_false, Bool.false_and, Bool.or_true, Bool.true_or, Bool.or_false, Bool.false_or, Bool.not_true, Bool.not_false, Bool.and_self, if_true, if_false, Bool.false_eq_true, reduceIte, decide_true, decide_false, callIO, callPB, gatherA, backA, List.take_succ_cons, List.take_zero, atI0, atI1, atI2, atI3, Nat.reduceAdd, Nat.reduceSub, Int.reduceLT, Int.reduceLE, Int.reduceNeg, Int.reduceAdd, Int.reduceSub, Int.reduceMul, Nat.reduceLT, Nat.reduceLeDiff, Int.reduceEq, Int.reduceBEq]
theorem whole_call (i : Int) : callP m_law_whole [.int i] = some (.bl true) := by
  have k1 : kitB "int" "int" = some true := rfl
  have k2 : kitB "int" "bool" = some false := by decide +kernel
  have e : m_law_whole [.int i] = .ok (.bl true) := by
    unfold m_law_whole fnP g_law_whole
    simp only [sSeq_ap, sNil_ap, sIf_ap, sSet_ap, sRet_ap, sRetN_ap, sDrop_ap, sAsg_ap, sFor_ap, sAug_ap, sAugL_ap, sPut_ap, mT_ap, mTest_ap, mF_ap, mP_ap, mMove_ap, mFrz_ap, mFz_ap, sRaiseI_ap, mOp2_ap, mOp1_ap, mOpS_ap, mIx_ap, mIxL_ap, mIte_ap, mNot_ap, mAnd_ap, mOr_ap, mAndV_ap, mOrV_ap, msNil_ap, msCons_ap, psNil_ap, psCons_ap, pVar_ap, pC_ap, pOp1_ap, pOp2_ap, pOpS_ap, pTest_ap, pNot_ap, pAnd_ap, pOr_ap, pVal_ap, pAndV_ap, pOrV_ap, pIte_ap, pChain_ap, pNo_ap, poNone_ap, poSome_ap, pSl_ap, pSeq_ap, mSeq_ap, pRng_ap, mRng_ap, pComp_ap, mComp_ap, pYes_ap, pMet_ap, mMet_ap, mMeth_ap, pIsi_ap, pGet2_ap, aNil_ap, aSlot_ap, aVal_ap, mCallIO_ap, mCall_ap, mCallP_ap, mCallPB_ap, oIsN_ap, oNotN_ap, oAdd_int, oSub_int, ipAdd_int, ipSub_int, oLt_int, oLe_int, oGt_int, oGe_int, oLt_str, oLe_str, oGt_str, oGe_str, oEq_int, oNe_int, oEq_bl, oNeg_int, oSubs_lst, oSubs_tup, oIx_lst, oIx_tup, oLen_lst, oLen_tup, oIn_str, oNotIn_str, seqOf_str, seqOf_tup, seqOf_lst, startS, RS.seq_nx, RS.seq_ret, RS.seq_brk, RS.seq_ct, RS.seq_err, RS.seq_bad, L2.DL.R.bind_ok, L2.DL.R.bind_err, L2.DL.R.bind_bad, rS_ok, rS_err, rS_bad, Option.bind_some, Option.bind_none, Option.map_some, Option.map_none, Option.join_some, gN, noOwn, noOwns, noObj, noObjs, noSh, noShs, frz, frzs, List.map_cons, List.map_nil, List.getElem?_cons_zero, List.getElem?_cons_succ, List.set_cons_zero, List.set_cons_succ, List.length_cons, List.length_nil, List.cons_append, List.nil_append, List.replicate, setS_nil, setS_cons, gsNil, gsCons, gTn, Bool.and_true, Bool.true_and, Bool.and_false, Bool.false_and, Bool.or_true, Bool.true_or, Bool.or_false, Bool.false_or, Bool.not_true, Bool.not_false, Bool.and_self, if_true, if_false, Bool.false_eq_true, reduceIte, decide_true, decide_false, callIO, callPB, gatherA, backA, List.take_succ_cons, List.take_zero, atI0, atI1, atI2, atI3, Nat.reduceAdd, Nat.reduceSub, Int.reduceLT, Int.reduceLE, Int.reduceNeg, Int.reduceAdd, Int.reduceSub, Int.reduceMul, Nat.reduceLT, Nat.reduceLeDiff, Int.reduceEq, Int.reduceBEq, tyName, k1, k2]
  simp only [callP, sSeq_ap, sNil_ap, sIf_ap, sSet_ap, sRet_ap, sRetN_ap, sDrop_ap, sAsg_ap, sFor_ap, sAug_ap, sAugL_ap, sPut_ap, mT_ap, mTest_ap, mF_ap, mP_ap, mMove_ap, mFrz_ap, mFz_ap, sRaiseI_ap, mOp2_ap, mOp1_ap, mOpS_ap, mIx_ap, mIxL_ap, mIte_ap, mNot_ap, mAnd_ap, mOr_ap, mAndV_ap, mOrV_ap, msNil_ap, msCons_ap, psNil_ap, psCons_ap, pVar_ap, pC_ap, pOp1_ap, pOp2_ap, pOpS_ap, pTest_ap, pNot_ap, pAnd_ap, pOr_ap, pVal_ap, pAndV_ap, pOrV_ap, pIte_ap, pChain_ap, pNo_ap, poNone_ap, poSome_ap, pSl_ap, pSeq_ap, mSeq_ap, pRng_ap, mRng_ap, pComp_ap, mComp_ap, pYes_ap, pMet_ap, mMet_ap, mMeth_ap, pIsi_ap, pGet2_ap, aNil_ap, aSlot_ap, aVal_ap, mCallIO_ap, mCall_ap, mCallP_ap, mCallPB_ap, oIsN_ap, oNotN_ap, oAdd_int, oSub_int, ipAdd_int, ipSub_int, oLt_int, oLe_int, oGt_int, oGe_int, oLt_str, oLe_str, oGt_str, oGe_str, oEq_int, oNe_int, oEq_bl, oNeg_int, oSubs_lst, oSubs_tup, oIx_lst, oIx_tup, oLen_lst, oLen_tup, oIn_str, oNotIn_str, seqOf_str, seqOf_tup, seqOf_lst, startS, RS.seq_nx, RS.seq_ret, RS.seq_brk, RS.seq_ct, RS.seq_err, RS.seq_bad, L2.DL.R.bind_ok, L2.DL.R.bind_err, L2.DL.R.bind_bad, rS_ok, rS_err, rS_bad, Option.bind_some, Option.bind_none, Option.map_some, Option.map_none, Option.join_some, gN, noOwn, noOwns, noObj, noObjs, noSh, noShs, frz, frzs, List.map_cons, List.map_nil, List.getElem?_cons_zero, List.getElem?_cons_succ, List.set_cons_zero, List.set_cons_succ, List.length_cons, List.length_nil, List.cons_append, List.nil_append, List.replicate, setS_nil, setS_cons, gsNil, gsCons, gTn, Bool.and_true, Bool.true_and, Bool.and_false, Bool.false_and, Bool.or_true, Bool.true_or, Bool.or_false, Bool.false_or, Bool.not_true, Bool.not_false, Bool.and_self, if_true, if_false, Bool.false_eq_true, reduceIte, decide_true, decide_false, callIO, callPB, gatherA, backA, List.take_succ_cons, List.take_zero, atI0, atI1, atI2, atI3, Nat.reduceAdd, Nat.reduceSub, Int.reduceLT, Int.reduceLE, Int.reduceNeg, Int.reduceAdd, Int.reduceSub, Int.reduceMul, Nat.reduceLT, Nat.reduceLeDiff, Int.reduceEq, Int.reduceBEq, e]
theorem tuple_call {row : List Int} (hl : row.length ≤ 16777216) : callP m_law_tuple [.tup (encI row)] = some (.bl true) := by
  have k1 : kitB "tuple" "tuple" = some true := rfl
  have cp : compP [1] gN pYes (pOpS (callP (m_law_whole)) (psCons (pVar 1) psNil)) [some (.tup (encI row)), none] (encI row) = some (row.map fun _ => .bl true) :=
    compP_int _ row fun i _ => by simp only [sSeq_ap, sNil_ap, sIf_ap, sSet_ap, sRet_ap, sRetN_ap, sDrop_ap, sAsg_ap, sFor_ap, sAug_ap, sAugL_ap, sPut_ap, mT_ap, mTest_ap, mF_ap, mP_ap, mMove_ap, mFrz_ap, mFz_ap, sRaiseI_ap, mOp2_ap, mOp1_ap, mOpS_ap, mIx_ap, mIxL_ap, mIte_ap, mNot_ap, mAnd_ap, mOr_ap, mAndV_ap, mOrV_ap, msNil_ap, msCons_ap, psNil_ap, psCons_ap, pVar_ap, pC_ap, pOp1_ap, pOp2_ap, pOpS_ap, pTest_ap, pNot_ap, pAnd_ap, pOr_ap, pVal_ap, pAndV_ap, pOrV_ap, pIte_ap, pChain_ap, pNo_ap, poNone_ap, poSome_ap, pSl_ap, pSeq_ap, mSeq_ap, pRng_ap, mRng_ap, pComp_ap, mComp_ap, pYes_ap, pMet_ap, mMet_ap, mMeth_ap, pIsi_ap, pGet2_ap, aNil_ap, aSlot_ap, aVal_ap, mCallIO_ap, mCall_ap, mCallP_ap, mCallPB_ap, oIsN_ap, oNotN_ap, oAdd_int, oSub_int, ipAdd_int, ipSub_int, oLt_int, oLe_int, oGt_int, oGe_int, oLt_str, oLe_str, oGt_str, oGe_str, oEq_int, oNe_int, oEq_bl, oNeg_int, oSubs_lst, oSubs_tup, oIx_lst, oIx_tup, oLen_lst, oLen_tup, oIn_str, oNotIn_str, seqOf_str, seqOf_tup, seqOf_lst, startS, RS.seq_nx, RS.seq_ret, RS.seq_brk, RS.seq_ct, RS.seq_err, RS.seq_bad, L2.DL.R.bind_ok, L2.DL.R.bind_err, L2.DL.R.bind_bad, rS_ok, rS_err, rS_bad, Option.bind_some, Option.bind_none, Option.map_some, Option.map_none, Option.join_some, gN, noOwn, noOwns, noObj, noObjs, noSh, noShs, frz, frzs, List.map_cons, List.map_nil, List.getElem?_cons_zero, List.getElem?_cons_succ, List.set_cons_zero, List.set_cons_succ, List.length_cons, List.length_nil, List.cons_append, List.nil_append, List.replicate, setS_nil, setS_cons, gsNil, gsCons, gTn, Bool.and_true, Bool.true_and, Bool.and_false, Bool.false_and, Bool.or_true, Bool.true_or, Bool.or_false, Bool.false_or, Bool.not_true, Bool.not_false, Bool.and_self, if_true, if_false, Bool.false_eq_true, reduceIte, decide_true, decide_false, callIO, callPB, gatherA, backA, List.take_succ_cons, List.take_zero, atI0, atI1, atI2, atI3, Nat.reduceAdd, Nat.reduceSub, Int.reduceLT, Int.reduceLE, Int.reduceNeg, Int.reduceAdd, Int.reduceSub, Int.reduceMul, Nat.reduceLT, Nat.reduceLeDiff, Int.reduceEq, Int.reduceBEq, whole_call]
  have w1 : ∀ a b, wipeS [a, b] [1] = [a, none] := fun _ _ => rfl
  have lz : (row.map fun _ => Val.bl true).length ≤ sizeLine := by rw [List.length_map, sizeLine_eq]; exact hl
  have oa := oAll_map true (fun _ => true) row
  have al : (row.all fun _ => true) = true := List.all_eq_true.mpr fun _ _ => rfl
  have e : m_law_tuple [.tup (encI row)] = .ok (.bl true) := by
    unfold m_law_tuple fnP g_law_tuple
    simp only [sSeq_ap, sNil_ap, sIf_ap, sSet_ap, sRet_ap, sRetN_ap, sDrop_ap, sAsg_ap, sFor_ap, sAug_ap, sAugL_ap, sPut_ap, mT_ap, mTest_ap, mF_ap, mP_ap, mMove_ap, mFrz_ap, mFz_ap, sRaiseI_ap, mOp2_ap, mOp1_ap, mOpS_ap, mIx_ap, mIxL_ap, mIte_ap, mNot_ap, mAnd_ap, mOr_ap, mAndV_ap, mOrV_ap, msNil_ap, msCons_ap, psNil_ap, psCons_ap, pVar_ap, pC_ap, pOp1_ap, pOp2_ap, pOpS_ap, pTest_ap, pNot_ap, pAnd_ap, pOr_ap, pVal_ap, pAndV_ap, pOrV_ap, pIte_ap, pChain_ap, pNo_ap, poNone_ap, poSome_ap, pSl_ap, pSeq_ap, mSeq_ap, pRng_ap, mRng_ap, pComp_ap, mComp_ap, pYes_ap, pMet_ap, mMet_ap, mMeth_ap, pIsi_ap, pGet2_ap, aNil_ap, aSlot_ap, aVal_ap, mCallIO_ap, mCall_ap, mCallP_ap, mCallPB_ap, oIsN_ap, oNotN_ap, oAdd_int, oSub_int, ipAdd_int, ipSub_int, oLt_int, oLe_int, oGt_int, oGe_int, oLt_str, oLe_str, oGt_str, oGe_str, oEq_int, oNe_int, oEq_bl, oNeg_int, oSubs_lst, oSubs_tup, oIx_lst, oIx_tup, oLen_lst, oLen_tup, oIn_str, oNotIn_str, seqOf_str, seqOf_tup, seqOf_lst, startS, RS.seq_nx, RS.seq_ret, RS.seq_brk, RS.seq_ct, RS.seq_err, RS.seq_bad, L2.DL.R.bind_ok, L2.DL.R.bind_err, L2.DL.R.bind_bad, rS_ok, rS_err, rS_bad, Option.bind_some, Option.bind_none, Option.map_some, Option.map_none, Option.join_some, gN, noOwn, noOwns, noObj, noObjs, noSh, noShs, frz, frzs, List.map_cons, List.map_nil, List.getElem?_cons_zero, List.getElem?_cons_succ, List.set_cons_zero, List.set_cons_succ, List.length_cons, List.length_nil, List.cons_append, List.nil_append, List.replicate, setS_nil, setS_cons, gsNil, gsCons, gTn, Bool.and_true, Bool.true_and, Bool.and_false, Bool.false_and, Bool.or_true, Bool.true_or, Bool.or_false, Bool.false_or, Bool.not_true, Bool.not_false, Bool.and_self, if_true, if_false, Bool.false_eq_true, reduceIte, decide_true, decide_false, callIO, callPB, gatherA, backA, List.take_succ_cons, List.take_zero, atI0, atI1, atI2, atI3, Nat.reduceAdd, Nat.reduceSub, Int.reduceLT, Int.reduceLE, Int.reduceNeg, Int.reduceAdd, Int.reduceSub, Int.reduceMul, Nat.reduceLT, Nat.reduceLeDiff, Int.reduceEq, Int.reduceBEq, tyName, k1, w1, cp, lz, oa, al]
  simp only [callP, noObjs, noObj, noObjs_I, frzs, frz, frzs_I, noOwns, noOwn, noOwns_I, e, sSeq_ap, sNil_ap, sIf_ap, sSet_ap, sRet_ap, sRetN_ap, sDrop_ap, sAsg_ap, sFor_ap, sAug_ap, sAugL_ap, sPut_ap, mT_ap, mTest_ap, mF_ap, mP_ap, mMove_ap, mFrz_ap, mFz_ap, sRaiseI_ap, mOp2_ap, mOp1_ap, mOpS_ap, mIx_ap, mIxL_ap, mIte_ap, mNot_ap, mAnd_ap, mOr_ap, mAndV_ap, mOrV_ap, msNil_ap, msCons_ap, psNil_ap, psCons_ap, pVar_ap, pC_ap, pOp1_ap, pOp2_ap, pOpS_ap, pTest_ap, pNot_ap, pAnd_ap, pOr_ap, pVal_ap, pAndV_ap, pOrV_ap, pIte_ap, pChain_ap, pNo_ap, poNone_ap, poSome_ap, pSl_ap, pSeq_ap, mSeq_ap, pRng_ap, mRng_ap, pComp_ap, mComp_ap, pYes_ap, pMet_ap, mMet_ap, mMeth_ap, pIsi_ap, pGet2_ap, aNil_ap, aSlot_ap, aVal_ap, mCallIO_ap, mCall_ap, mCallP_ap, mCallPB_ap, oIsN_ap, oNotN_ap, oAdd_int, oSub_int, ipAdd_int, ipSub_int, oLt_int, oLe_int, oGt_int, oGe_int, oLt_str, oLe_str, oGt_str, oGe_str, oEq_int, oNe_int, oEq_bl, oNeg_int, oSubs_lst, oSubs_tup, oIx_lst, oIx_tup, oLen_lst, oLen_tup, oIn_str, oNotIn_str, seqOf_str, seqOf_tup, seqOf_lst, startS, RS.seq_nx, RS.seq_ret, RS.seq_brk, RS.seq_ct, RS.seq_err, RS.seq_bad, L2.DL.R.bind_ok, L2.DL.R.bind_err, L2.DL.R.bind_bad, rS_ok, rS_err, rS_bad, Option.bind_some, Option.bind_none, Option.map_some, Option.map_none, Option.join_some, gN, noOwn, noOwns, noObj, noObjs, noSh, noShs, frz, frzs, List.map_cons, List.map_nil, List.getElem?_cons_zero, List.getElem?_cons_succ, List.set_cons_zero, List.set_cons_succ, List.length_cons, List.length_nil, List.cons_append, List.nil_append, List.replicate, setS_nil, setS_cons, gsNil, gsCons, gTn, Bool.and_true, Bool.true_and, Bool.and_false, Bool.false_and, Bool.or_true, Bool.true_or, Bool.or_false, Bool.false_or, Bool.not_true, Bool.not_false, Bool.and_self, if_true, if_false, Bool.false_eq_true, reduceIte, decide_true, decide_false, callIO, callPB, gatherA, backA, List.take_succ_cons, List.take_zero, atI0, atI1, atI2, atI3, Nat.reduceAdd, Nat.reduceSub, Int.reduceLT, Int.reduceLE, Int.reduceNeg, Int.reduceAdd, Int.reduceSub, Int.reduceMul, Nat.reduceLT, Nat.reduceLeDiff, Int.reduceEq, Int.reduceBEq]
theorem row_of_call {room part : List (List Nat)} {row : List Int} (hr : room.length = row.length) (h : inAll part room = true) (hl : part.length ≤ 16777216) : callP m_law_row_of [.tpz (encN room), .tup (encI row), .tpz (encN part)] = some (.tup (encI (shareR room row part))) := by
  have cp : compP [3] gN pYes (pNo (pOp2 oSubs (pVar 1) (pIdx (pVar 0) (pVar 3)))) [some (.tpz (encN room)), some (.tup (encI row)), some (.tpz (encN part)), none] (encN part) = some (part.map fun n => .int (row.getD (room.idxOf n) 0)) :=
    compP_str _ part fun s hs => by
      have hm : s ∈ room := of_decide_eq_true (List.all_eq_true.mp h s hs)
      have hj : room.idxOf s < row.length := by rw [← hr]; exact idx_lt hm
      have e := atI_I hj
      have e2 : row.getD (room.idxOf s) 0 = row[room.idxOf s] := by rw [List.getD_eq_getElem?_getD, List.getElem?_eq_getElem hj]; rfl
      simp only [sSeq_ap, sNil_ap, sIf_ap, sSet_ap, sRet_ap, sRetN_ap, sDrop_ap, sAsg_ap, sFor_ap, sAug_ap, sAugL_ap, sPut_ap, mT_ap, mTest_ap, mF_ap, mP_ap, mMove_ap, mFrz_ap, mFz_ap, sRaiseI_ap, mOp2_ap, mOp1_ap, mOpS_ap, mIx_ap, mIxL_ap, mIte_ap, mNot_ap, mAnd_ap, mOr_ap, mAndV_ap, mOrV_ap, msNil_ap, msCons_ap, psNil_ap, psCons_ap, pVar_ap, pC_ap, pOp1_ap, pOp2_ap, pOpS_ap, pTest_ap, pNot_ap, pAnd_ap, pOr_ap, pVal_ap, pAndV_ap, pOrV_ap, pIte_ap, pChain_ap, pNo_ap, poNone_ap, poSome_ap, pSl_ap, pSeq_ap, mSeq_ap, pRng_ap, mRng_ap, pComp_ap, mComp_ap, pYes_ap, pMet_ap, mMet_ap, mMeth_ap, pIsi_ap, pGet2_ap, aNil_ap, aSlot_ap, aVal_ap, mCallIO_ap, mCall_ap, mCallP_ap, mCallPB_ap, oIsN_ap, oNotN_ap, oAdd_int, oSub_int, ipAdd_int, ipSub_int, oLt_int, oLe_int, oGt_int, oGe_int, oLt_str, oLe_str, oGt_str, oGe_str, oEq_int, oNe_int, oEq_bl, oNeg_int, oSubs_lst, oSubs_tup, oIx_lst, oIx_tup, oLen_lst, oLen_tup, oIn_str, oNotIn_str, seqOf_str, seqOf_tup, seqOf_lst, startS, RS.seq_nx, RS.seq_ret, RS.seq_brk, RS.seq_ct, RS.seq_err, RS.seq_bad, L2.DL.R.bind_ok, L2.DL.R.bind_err, L2.DL.R.bind_bad, rS_ok, rS_err, rS_bad, Option.bind_some, Option.bind_none, Option.map_some, Option.map_none, Option.join_some, gN, noOwn, noOwns, noObj, noObjs, noSh, noShs, frz, frzs, List.map_cons, List.map_nil, List.getElem?_cons_zero, List.getElem?_cons_succ, List.set_cons_zero, List.set_cons_succ, List.length_cons, List.length_nil, List.cons_append, List.nil_append, List.replicate, setS_nil, setS_cons, gsNil, gsCons, gTn, Bool.and_true, Bool.true_and, Bool.and_false, Bool.false_and, Bool.or_true, Bool.true_or, Bool.or_false, Bool.false_or, Bool.not_true, Bool.not_false, Bool.and_self, if_true, if_false, Bool.false_eq_true, reduceIte, decide_true, decide_false, callIO, callPB, gatherA, backA, List.take_succ_cons, List.take_zero, atI0, atI1, atI2, atI3, Nat.reduceAdd, Nat.reduceSub, Int.reduceLT, Int.reduceLE, Int.reduceNeg, Int.reduceAdd, Int.reduceSub, Int.reduceMul, Nat.reduceLT, Nat.reduceLeDiff, Int.reduceEq, Int.reduceBEq, pIdx, gIndex_N hm, e, e2]
  have w3 : ∀ a b c d, wipeS [a, b, c, d] [3] = [a, b, c, none] := fun _ _ _ _ => rfl
  have lz : (part.map fun n => Val.int (row.getD (room.idxOf n) 0)).length ≤ sizeLine := by rw [List.length_map, sizeLine_eq]; exact hl
  have ot : oTuple [.lst true (part.map fun n => Val.int (row.getD (room.idxOf n) 0))] = some (.tup (encI (shareR room row part))) := by
    have : (part.map fun n => Val.int (row.getD (room.idxOf n) 0)) = encI (shareR room row part) := by simp only [encI, shareR, List.map_map, Function.comp_def]
    rw [this]
    simp only [oTuple, noOwns_I, if_true]
  have e : m_law_row_of [.tpz (encN room), .tup (encI row), .tpz (encN part)] = .ok (.tup (encI (shareR room row part))) := by
    unfold m_law_row_of fnP g_law_row_of
    simp only [sSeq_ap, sNil_ap, sIf_ap, sSet_ap, sRet_ap, sRetN_ap, sDrop_ap, sAsg_ap, sFor_ap, sAug_ap, sAugL_ap, sPut_ap, mT_ap, mTest_ap, mF_ap, mP_ap, mMove_ap, mFrz_ap, mFz_ap, sRaiseI_ap, mOp2_ap, mOp1_ap, mOpS_ap, mIx_ap, mIxL_ap, mIte_ap, mNot_ap, mAnd_ap, mOr_ap, mAndV_ap, mOrV_ap, msNil_ap, msCons_ap, psNil_ap, psCons_ap, pVar_ap, pC_ap, pOp1_ap, pOp2_ap, pOpS_ap, pTest_ap, pNot_ap, pAnd_ap, pOr_ap, pVal_ap, pAndV_ap, pOrV_ap, pIte_ap, pChain_ap, pNo_ap, poNone_ap, poSome_ap, pSl_ap, pSeq_ap, mSeq_ap, pRng_ap, mRng_ap, pComp_ap, mComp_ap, pYes_ap, pMet_ap, mMet_ap, mMeth_ap, pIsi_ap, pGet2_ap, aNil_ap, aSlot_ap, aVal_ap, mCallIO_ap, mCall_ap, mCallP_ap, mCallPB_ap, oIsN_ap, oNotN_ap, oAdd_int, oSub_int, ipAdd_int, ipSub_int, oLt_int, oLe_int, oGt_int, oGe_int, oLt_str, oLe_str, oGt_str, oGe_str, oEq_int, oNe_int, oEq_bl, oNeg_int, oSubs_lst, oSubs_tup, oIx_lst, oIx_tup, oLen_lst, oLen_tup, oIn_str, oNotIn_str, seqOf_str, seqOf_tup, seqOf_lst, startS, RS.seq_nx, RS.seq_ret, RS.seq_brk, RS.seq_ct, RS.seq_err, RS.seq_bad, L2.DL.R.bind_ok, L2.DL.R.bind_err, L2.DL.R.bind_bad, rS_ok, rS_err, rS_bad, Option.bind_some, Option.bind_none, Option.map_some, Option.map_none, Option.join_some, gN, noOwn, noOwns, noObj, noObjs, noSh, noShs, frz, frzs, List.map_cons, List.map_nil, List.getElem?_cons_zero, List.getElem?_cons_succ, List.set_cons_zero, List.set_cons_succ, List.length_cons, List.length_nil, List.cons_append, List.nil_append, List.replicate, setS_nil, setS_cons, gsNil, gsCons, gTn, Bool.and_true, Bool.true_and, Bool.and_false, Bool.false_and, Bool.or_true, Bool.true_or, Bool.or_false, Bool.false_or, Bool.not_true, Bool.not_false, Bool.and_self, if_true, if_false, Bool.false_eq_true, reduceIte, decide_true, decide_false, callIO, callPB, gatherA, backA, List.take_succ_cons, List.take_zero, atI0, atI1, atI2, atI3, Nat.reduceAdd, Nat.reduceSub, Int.reduceLT, Int.reduceLE, Int.reduceNeg, Int.reduceAdd, Int.reduceSub, Int.reduceMul, Nat.reduceLT, Nat.reduceLeDiff, Int.reduceEq, Int.reduceBEq, seqOf_tpz, w3, cp, lz, ot]
  simp only [callP, noObjs, noObj, noObjs_N, noObjs_I, frzs, frz, frzs_N, frzs_I, noOwns, noOwn, noOwns_N, noOwns_I, e, sSeq_ap, sNil_ap, sIf_ap, sSet_ap, sRet_ap, sRetN_ap, sDrop_ap, sAsg_ap, sFor_ap, sAug_ap, sAugL_ap, sPut_ap, mT_ap, mTest_ap, mF_ap, mP_ap, mMove_ap, mFrz_ap, mFz_ap, sRaiseI_ap, mOp2_ap, mOp1_ap, mOpS_ap, mIx_ap, mIxL_ap, mIte_ap, mNot_ap, mAnd_ap, mOr_ap, mAndV_ap, mOrV_ap, msNil_ap, msCons_ap, psNil_ap, psCons_ap, pVar_ap, pC_ap, pOp1_ap, pOp2_ap, pOpS_ap, pTest_ap, pNot_ap, pAnd_ap, pOr_ap, pVal_ap, pAndV_ap, pOrV_ap, pIte_ap, pChain_ap, pNo_ap, poNone_ap, poSome_ap, pSl_ap, pSeq_ap, mSeq_ap, pRng_ap, mRng_ap, pComp_ap, mComp_ap, pYes_ap, pMet_ap, mMet_ap, mMeth_ap, pIsi_ap, pGet2_ap, aNil_ap, aSlot_ap, aVal_ap, mCallIO_ap, mCall_ap, mCallP_ap, mCallPB_ap, oIsN_ap, oNotN_ap, oAdd_int, oSub_int, ipAdd_int, ipSub_int, oLt_int, oLe_int, oGt_int, oGe_int, oLt_str, oLe_str, oGt_str, oGe_str, oEq_int, oNe_int, oEq_bl, oNeg_int, oSubs_lst, oSubs_tup, oIx_lst, oIx_tup, oLen_lst, oLen_tup, oIn_str, oNotIn_str, seqOf_str, seqOf_tup, seqOf_lst, startS, RS.seq_nx, RS.seq_ret, RS.seq_brk, RS.seq_ct, RS.seq_err, RS.seq_bad, L2.DL.R.bind_ok, L2.DL.R.bind_err, L2.DL.R.bind_bad, rS_ok, rS_err, rS_bad, Option.bind_some, Option.bind_none, Option.map_some, Option.map_none, Option.join_some, gN, noOwn, noOwns, noObj, noObjs, noSh, noShs, frz, frzs, List.map_cons, List.map_nil, List.getElem?_cons_zero, List.getElem?_cons_succ, List.set_cons_zero, List.set_cons_succ, List.length_cons, List.length_nil, List.cons_append, List.nil_append, List.replicate, setS_nil, setS_cons, gsNil, gsCons, gTn, Bool.and_true, Bool.true_and, Bool.and_false, Bool.false_and, Bool.or_true, Bool.true_or, Bool.or_false, Bool.false_or, Bool.not_true, Bool.not_false, Bool.and_self, if_true, if_false, Bool.false_eq_true, reduceIte, decide_true, decide_false, callIO, callPB, gatherA, backA, List.take_succ_cons, List.take_zero, atI0, atI1, atI2, atI3, Nat.reduceAdd, Nat.reduceSub, Int.reduceLT, Int.reduceLE, Int.reduceNeg, Int.reduceAdd, Int.reduceSub, Int.reduceMul, Nat.reduceLT, Nat.reduceLeDiff, Int.reduceEq, Int.reduceBEq]
/-- the share of a share -/
theorem share_share {room part less : List (List Nat)} {row : List Int} (h : inAll less part = true) : shareR part (shareR room row part) less = shareR room row less := by
  unfold shareR
  refine List.map_congr_left fun n hn => ?_
  have hm : n ∈ part := of_decide_eq_true (List.all_eq_true.mp h n hn)
  have hj := idx_lt hm
  rw [List.getD_eq_getElem?_getD, List.getElem?_map, List.getElem?_eq_getElem hj]
  simp only [Option.map_some, Option.getD_some]
  rw [List.getElem_idxOf]
end RT

namespace RT
open L2 PyProof.Rows PySem.Spec PySem L2.DL SX
/-! ### rows, and dicts from rows to counts -/
abbrev Row := List Int
abbrev Dic := List (Row × Int)
def keyI (r : Row) : List Key := r.map .inl
def encR (l : List Row) : List Val := l.map fun r => .tup (encI r)
def pairV (p : Row × Int) : Val := .tup [.tup (encI p.1), .int p.2]
def encT (l : Dic) : List Val := l.map pairV
def dV (o : Bool) (D : Dic) : Val := .dT o (D.map fun p => keyI p.1) (encI (D.map Prod.snd))
def look (r : Row) : Dic → Option Int
  | [] => none
  | p :: D => if p.1 = r then some p.2 else look r D
def get0 (D : Dic) (r : Row) : Int := (look r D).getD 0
def put (D : Dic) (r : Row) (c : Int) : Dic := if r ∈ D.map Prod.fst then D.map (fun p => if p.1 = r then (p.1, c) else p) else D ++ [(r, c)]
def leR (a b : Row) : Bool := decide (a ≤ b)
def sortR (l : List Row) : List Row := l.mergeSort leR
def settle (D : Dic) : Dic := ((sortR (D.map Prod.fst)).filter fun r => get0 D r != 0).map fun r => (r, get0 D r)
theorem dataLe_tups {β : Type} (x : β → List Int) : PySem.W.dataLe false (fun b => PyData.tuple ((x b).map .int)) = fun p q => decide (x p ≤ x q) := by
  funext p q
  show (!PySem.W.dataLt (.tuple ((x q).map .int)) (.tuple ((x p).map .int))) = _
  rw [PySem.W.dataLt_tuple]
  show (!PySem.W.rowLt ((x q).map .int) ((x p).map .int)) = _
  rw [PySem.W.dataLt_ints]
  by_cases h : x q < x p
  · have h' : ¬ x p ≤ x q := fun r => List.not_lt.mpr r h
    simp [h, h']
  · have h' : x p ≤ x q := List.not_lt.mp h
    simp [h, h']
theorem keyI_inj : ∀ {a b : Row}, keyI a = keyI b → a = b
  | [], [], _ => rfl
  | [], _ :: _, h => by cases h
  | _ :: _, [], h => by cases h
  | x :: a, y :: b, h => by
    simp only [keyI, List.map_cons, List.cons.injEq, Sum.inl.injEq] at h
    rw [h.1, keyI_inj (a := a) (b := b) h.2]
theorem keysV_I : ∀ r : Row, keysV (encI r) = some (keyI r)
  | [] => rfl
  | x :: r => by rw [encI_cons]; simp only [keysV, keyV, keysV_I r, Option.bind_some, Option.map_some]; rfl
theorem keyW_I (r : Row) : (keyI r).map keyW = encI r := by
  simp only [keyI, encI, List.map_map]; rfl
theorem lookL_D (r : Row) : ∀ D : Dic, lookL (D.map fun p => keyI p.1) (encI (D.map Prod.snd)) (keyI r) = (look r D).map .int
  | [] => rfl
  | p :: D => by
    rw [List.map_cons, List.map_cons, encI_cons]
    show (if keyI p.1 = keyI r then some (Val.int p.2) else lookL (D.map fun p => keyI p.1) (encI (D.map Prod.snd)) (keyI r)) = _
    rw [lookL_D r D, look]
    by_cases h : p.1 = r
    · rw [if_pos h, if_pos (congrArg keyI h)]; rfl
    · rw [if_neg h, if_neg fun z => h (keyI_inj z)]
theorem dGet_D (o : Bool) (D : Dic) (r : Row) : dGet (dV o D) (.tup (encI r)) = some ((look r D).map .int) := by
  simp only [dGet, dV, keysV_I, Option.map_some, lookL_D]
theorem look_mem {r : Row} : ∀ {D : Dic}, r ∈ D.map Prod.fst → look r D = some (get0 D r)
  | [], h => by cases h
  | p :: D, h => by
    unfold get0
    rw [look]
    by_cases e : p.1 = r
    · rw [if_pos e]; rfl
    · rw [if_neg e]
      rcases List.mem_cons.mp h with h | h
      · exact absurd h.symm e
      · exact look_mem h
theorem look_none {r : Row} : ∀ {D : Dic}, r ∉ D.map Prod.fst → look r D = none
  | [], _ => rfl
  | p :: D, h => by
    rw [look, if_neg fun e => h (by rw [List.map_cons, e]; exact List.mem_cons_self), look_none fun z => h (List.mem_cons_of_mem _ z)]
theorem oSubs_D {o : Bool} {D : Dic} {r : Row} (h : r ∈ D.map Prod.fst) : oSubs (dV o D) (.tup (encI r)) = some (.int (get0 D r)) := by
  have e := dGet_D o D r
  simp only [oSubs, show isDict (dV o D) = true from rfl, if_true, e, look_mem h, Option.map_some, Option.bind_some, id]
theorem gGet_D (o : Bool) (D : Dic) (r : Row) : ((dGet (dV o D) (.tup (encI r))).map fun z => z.getD (.int 0)) = some (.int (get0 D r)) := by
  rw [dGet_D, Option.map_some]
  unfold get0
  cases look r D <;> rfl
theorem memK {D : Dic} {r : Row} : keyI r ∈ (D.map fun p => keyI p.1) ↔ r ∈ D.map Prod.fst := by
  constructor
  · intro h
    obtain ⟨p, hp, e⟩ := List.mem_map.mp h
    rw [← keyI_inj e]; exact List.mem_map.mpr ⟨p, hp, rfl⟩
  · intro h
    obtain ⟨p, hp, e⟩ := List.mem_map.mp h
    exact List.mem_map.mpr ⟨p, hp, by rw [e]⟩
theorem putL_D (D : Dic) (r : Row) (c : Int) : putL (D.map fun p => keyI p.1) (encI (D.map Prod.snd)) (keyI r) (.int c) = ((put D r c).map (fun p => keyI p.1), encI ((put D r c).map Prod.snd)) := by
  unfold putL put
  by_cases h : r ∈ D.map Prod.fst
  · rw [if_pos h, if_pos (memK.mpr h)]
    congr 1
    · rw [List.map_map]
      apply List.map_congr_left
      intro p _
      show _ = keyI (if p.1 = r then (p.1, c) else p).1
      split <;> rfl
    · rw [encI, List.map_map, zip_two, List.map_map, encI, List.map_map, List.map_map]
      apply List.map_congr_left
      intro p _
      show (if keyI p.1 = keyI r then Val.int c else .int p.2) = .int (if p.1 = r then (p.1, c) else p).2
      by_cases e : p.1 = r
      · rw [if_pos e, if_pos (congrArg keyI e)]
      · rw [if_neg e, if_neg fun z => e (keyI_inj z)]
  · rw [if_neg h, if_neg fun z => h (memK.mp z)]
    simp only [List.map_append, List.map_cons, List.map_nil, encI_app]
    rfl
theorem putW_D {D : Dic} {r : Row} {c : Int} (h : D.length < 16777216) : putW (dV true D) (.tup (encI r)) (.int c) = some (dV true (put D r c)) := by
  simp only [putW, dV, keysV_I, Option.bind_some, noOwn, noOwns_I, Bool.and_self, List.length_map, sizeLine_eq, true_and]
  rw [if_pos h, putL_D]
theorem put_len (D : Dic) (r : Row) (c : Int) : (put D r c).length ≤ D.length + 1 := by
  unfold put
  split <;> simp
theorem put_keys (D : Dic) (r : Row) (c : Int) : (put D r c).map Prod.fst = if r ∈ D.map Prod.fst then D.map Prod.fst else D.map Prod.fst ++ [r] := by
  unfold put
  split
  · rw [List.map_map]
    apply List.map_congr_left
    intro p _
    show (if p.1 = r then (p.1, c) else p).1 = p.1
    split <;> rfl
  · rw [List.map_append]; rfl
theorem put_nodup {D : Dic} (r : Row) (c : Int) (h : (D.map Prod.fst).Nodup) : ((put D r c).map Prod.fst).Nodup := by
  rw [put_keys]
  split
  · exact h
  · rename_i hn
    rw [List.nodup_append]
    refine ⟨h, by simp, fun a ha b hb => ?_⟩
    rw [List.mem_singleton] at hb
    rintro rfl; subst hb; exact hn ha
theorem look_put (r : Row) (c : Int) (s : Row) : ∀ D : Dic, look s (put D r c) = if r = s then some c else look s D := by
  intro D
  unfold put
  by_cases h : r ∈ D.map Prod.fst
  · rw [if_pos h]
    induction D with
    | nil => cases h
    | cons p D ih =>
      rw [List.map_cons, look, look]
      by_cases e : p.1 = r
      · rw [if_pos e]
        by_cases e2 : r = s
        · rw [if_pos e2, if_pos (show (p.1, c).1 = s from e.trans e2)]
        · rw [if_neg e2, if_neg (show ¬ (p.1, c).1 = s from fun z => e2 (e.symm.trans z)), if_neg fun z => e2 (e.symm.trans z)]
          by_cases hm : r ∈ D.map Prod.fst
          · rw [ih hm, if_neg e2]
          · have : (D.map fun p => if p.1 = r then (p.1, c) else p) = D := by
              refine (List.map_congr_left (g := id) fun q hq => ?_).trans (List.map_id D)
              exact if_neg fun z => hm (List.mem_map.mpr ⟨q, hq, z⟩)
            rw [this]
      · rw [if_neg e]
        have hm : r ∈ D.map Prod.fst := by
          rcases List.mem_cons.mp h with h | h
          · exact absurd h.symm e
          · exact h
        by_cases e2 : p.1 = s
        · rw [if_pos e2, if_pos e2, if_neg fun z => e (e2.trans z.symm)]
        · rw [if_neg e2, if_neg e2]
          exact ih hm
  · rw [if_neg h]
    induction D with
    | nil => rfl
    | cons p D ih =>
      rw [List.cons_append, look, look]
      by_cases e2 : p.1 = s
      · rw [if_pos e2, if_pos e2, if_neg fun z => h (by rw [z, ← e2]; exact List.mem_cons_self)]
      · rw [if_neg e2, if_neg e2]
        exact ih fun z => h (List.mem_cons_of_mem _ z)
theorem get0_put (D : Dic) (r : Row) (c : Int) (s : Row) : get0 (put D r c) s = if r = s then c else get0 D s := by
  unfold get0
  rw [look_put]
  split <;> rfl
/-! ### lists of rows and of pairs -/
theorem encR_len (l : List Row) : (encR l).length = l.length := List.length_map _
theorem encT_len (l : Dic) : (encT l).length = l.length := List.length_map _
theorem noOwn_row (r : Row) : noOwn (.tup (encI r)) = true := by simp only [noOwn, noOwns_I]
theorem noOwns_R (l : List Row) : noOwns (encR l) = true := noOwns_of fun w h => by
  obtain ⟨r, _, rfl⟩ := List.mem_map.mp h; exact noOwn_row r
theorem noOwn_pair (p : Row × Int) : noOwn (pairV p) = true := by simp only [pairV, noOwn, noOwns, noOwns_I, Bool.and_self]
theorem noSh_pair (p : Row × Int) : noSh (pairV p) = true := by simp only [pairV, noSh, noShs, noShs_I, Bool.and_self]
theorem noObj_pair (p : Row × Int) : noObj (pairV p) = true := by simp only [pairV, noObj, noObjs, noObjs_I, Bool.and_self]
theorem frz_pair (p : Row × Int) : frz (pairV p) = pairV p := by simp only [pairV, frz, frzs, frzs_I]
theorem noOwns_T (l : Dic) : noOwns (encT l) = true := noOwns_of fun w h => by
  obtain ⟨r, _, rfl⟩ := List.mem_map.mp h; exact noOwn_pair r
theorem noShs_T (l : Dic) : noShs (encT l) = true := noShs_of fun w h => by
  obtain ⟨r, _, rfl⟩ := List.mem_map.mp h; exact noSh_pair r
theorem noObjs_T (l : Dic) : noObjs (encT l) = true := noObjs_of fun w h => by
  obtain ⟨r, _, rfl⟩ := List.mem_map.mp h; exact noObj_pair r
theorem frzs_T : ∀ l : Dic, frzs (encT l) = encT l
  | [] => rfl
  | p :: l => by
    show frzs (pairV p :: encT l) = _
    rw [frzs, frz_pair, frzs_T l]; rfl
theorem encT_cons (p : Row × Int) (l : Dic) : encT (p :: l) = pairV p :: encT l := rfl
theorem encT_app (k l : Dic) : encT (k ++ l) = encT k ++ encT l := List.map_append
def rowD (r : Row) : PyData := .tuple (r.map .int)
def pairD (p : Row × Int) : PyData := .tuple [rowD p.1, .int p.2]
theorem toPys_R : ∀ l : List Row, toPys (encR l) = some (l.map rowD)
  | [] => rfl
  | r :: l => by
    show toPys (.tup (encI r) :: encR l) = _
    simp only [toPys, toPy, toPys_I, toPys_R l, Option.bind_some, Option.map_some, List.map_cons]; rfl
theorem toPys_T : ∀ l : Dic, toPys (encT l) = some (l.map pairD)
  | [] => rfl
  | p :: l => by
    show toPys (pairV p :: encT l) = _
    simp only [pairV, toPys, toPy, toPys_I, toPys_T l, Option.bind_some, Option.map_some, List.map_cons]; rfl
theorem sortOk_R {l : List Row} (h : (∀ r ∈ l, r ≠ []) ∨ l.length ≤ 1) : sortOk (l.map rowD) = true := by
  have h1 : alikesB (l.map rowD) = true := by
    unfold alikesB
    rw [List.all_eq_true]
    intro x hx
    obtain ⟨a, _, rfl⟩ := List.mem_map.mp hx
    rw [List.all_eq_true]
    intro y hy
    obtain ⟨b, _, rfl⟩ := List.mem_map.mp hy
    show PySem.W.alike (.tuple (a.map .int)) (.tuple (b.map .int)) = true
    rw [PySem.W.alike]
    exact PySem.W.alike_ints a b
  have h2 : (((l.map rowD).all isTupC) || decide ((l.map rowD).length ≤ 1)) = true := by
    rcases h with h | h
    · have : (l.map rowD).all isTupC = true := List.all_eq_true.mpr fun x hx => by
        obtain ⟨a, ha, rfl⟩ := List.mem_map.mp hx
        cases a with
        | nil => exact absurd rfl (h _ ha)
        | cons _ _ => rfl
      rw [this, Bool.true_or]
    · rw [List.length_map, decide_eq_true h, Bool.or_true]
  have h3 : (l.map rowD).all notN = true := List.all_eq_true.mpr fun x hx => by
    obtain ⟨a, _, rfl⟩ := List.mem_map.mp hx; rfl
  have h4 : ((l.map rowD).all fun d => decide (d.depth ≤ 60)) = true := List.all_eq_true.mpr fun x hx => by
    obtain ⟨a, _, rfl⟩ := List.mem_map.mp hx
    show decide ((PyData.tuple (a.map .int)).depth ≤ 60) = true
    simp only [PyData.depth, depth_I]; decide
  have h5 : ((l.map rowD).all isTupC || (l.map rowD).all notTN || decide ((l.map rowD).length ≤ 1)) = true := by
    rw [Bool.or_eq_true] at h2
    rcases h2 with h2 | h2
    · rw [h2, Bool.true_or, Bool.true_or]
    · rw [h2, Bool.or_true]
  simp only [sortOk, h1, h3, h4, h5, Bool.and_self]
theorem sortW_R (l : List Row) : sortW (encR l) (l.map rowD) = encR (sortR l) := by
  unfold sortW encR sortR
  rw [zip_two, merge_map, List.map_map]
  have : (fun a b : Row => PySem.W.dataLe false Prod.snd ((Val.tup (encI a), rowD a) : Val × PyData) (Val.tup (encI b), rowD b)) = leR := by
    have := dataLe_tups (fun s : Row => s)
    exact this
  rw [this]
  rfl
theorem oSorted_R {o : Bool} {l : List Row} (h : (∀ r ∈ l, r ≠ []) ∨ l.length ≤ 1) : oSorted [.lst o (encR l)] = some (.lst true (encR (sortR l))) := by
  simp only [oSorted, noOwns_R, if_true, toPys_R, Option.bind_some, sortOk_R h, sortW_R]
theorem oList_D (o : Bool) (D : Dic) : oList [dV o D] = some (.lst true (encR (D.map Prod.fst))) := by
  simp only [oList, dV, encR, List.map_map]
  congr 2
  apply List.map_congr_left
  intro p _
  show Val.tup ((keyI p.1).map keyW) = _
  rw [keyW_I]; rfl
theorem oList_T (o : Bool) (l : Dic) : oList [.lst o (encT l)] = some (.lst true (encT l)) := by simp only [oList, noOwns_T, if_true]
theorem sortR_perm (l : List Row) : (sortR l).Perm l := List.mergeSort_perm l leR
theorem atI_T {l : Dic} {i : Nat} (h : i < l.length) : atI (encT l) (i : Int) = some (pairV l[i]) := by
  refine atI_nat ?_
  rw [encT, List.getElem?_map, List.getElem?_eq_getElem h]; rfl
/-! ### equality -/
theorem canLay_row (r : Row) : PyData.canLay0 (rowD r) = true := by
  simp only [rowD, PyData.canLay0, canLay_I]
theorem canLay_T : ∀ l : Dic, PyData.canLayAll0 (l.map pairD) = true
  | [] => rfl
  | p :: l => by simp only [List.map_cons, pairD, PyData.canLayAll0, PyData.canLay0, canLay_row, canLay_T l, Bool.and_self]
theorem depth_T : ∀ l : Dic, PyData.depthAll (l.map pairD) ≤ 2
  | [] => by simp [PyData.depthAll]
  | p :: l => by
    have := depth_T l
    simp only [List.map_cons, pairD, rowD, PyData.depthAll, PyData.depth, depth_I]
    omega
theorem eqv_row (r s : Row) : PyData.eqv (rowD r) (rowD s) = decide (r = s) := by
  simp only [rowD, PyData.eqv, eqvAll_I]
theorem eqv_pair (p q : Row × Int) : PyData.eqv (pairD p) (pairD q) = decide (p = q) := by
  obtain ⟨r, c⟩ := p; obtain ⟨s, d⟩ := q
  simp only [pairD, PyData.eqv, PyData.eqvAll, eqv_row, Prod.mk.injEq]
  by_cases h1 : r = s <;> by_cases h2 : c = d <;> simp [h1, h2]
theorem eqvAll_T : ∀ ss tt : Dic, PyData.eqvAll (ss.map pairD) (tt.map pairD) = decide (ss = tt)
  | [], [] => rfl
  | [], _ :: _ => rfl
  | _ :: _, [] => rfl
  | s :: ss, t :: tt => by
    rw [List.map_cons, List.map_cons, PyData.eqvAll, eqv_pair, eqvAll_T ss tt]
    by_cases h1 : s = t <;> by_cases h2 : ss = tt <;> simp [h1, h2]
theorem shaped_T (l : Dic) : SeqAt.shaped (.list (l.map pairD)) = true := by
  have := depth_T l
  simp only [SeqAt.shaped, PyData.canLay0, canLay_T, PyData.depth, Bool.true_and]
  exact decide_eq_true (by omega)
theorem eqB_T (o p : Bool) (ss tt : Dic) : eqB (.lst o (encT ss)) (.lst p (encT tt)) = some (decide (ss = tt)) := by
  simp only [eqB, toPy, toPys_T, Option.map_some, Option.bind_some, shaped_T, Bool.and_self, if_true, PyData.eqv, eqvAll_T]
theorem oEq_T (o p : Bool) (ss tt : Dic) : oEq (.lst o (encT ss)) (.lst p (encT tt)) = some (.bl (decide (ss = tt))) := by
  simp only [oEq, eqB_T, Option.map_some]
theorem oNe_T (o p : Bool) (ss tt : Dic) : oNe (.lst o (encT ss)) (.lst p (encT tt)) = some (.bl (!decide (ss = tt))) := by
  simp only [oNe, eqB_T, Option.map_some]
theorem ne_nil_T (o p : Bool) (ss : Dic) : oNe (.lst o (encT ss)) (.lst p []) = some (.bl (!decide (ss = []))) := oNe_T o p ss []
theorem eq_nil_T (o p : Bool) (ss : Dic) : oEq (.lst o (encT ss)) (.lst p []) = some (.bl (decide (ss = []))) := oEq_T o p ss []
theorem shaped_p (p : Row × Int) : SeqAt.shaped (pairD p) = true := by
  simp only [SeqAt.shaped, pairD, PyData.canLay0, PyData.canLayAll0, canLay_row, canLay_I, PyData.depth, PyData.depthAll, rowD, depth_I, Bool.true_and, Bool.and_self]
  exact decide_eq_true (by omega)
theorem toPy_pair (p : Row × Int) : toPy (pairV p) = some (pairD p) := by
  simp only [pairV, toPy, toPys, toPys_I, Option.bind_some, Option.map_some]; rfl
theorem oNe_pair (p q : Row × Int) : oNe (pairV p) (pairV q) = some (.bl (!decide (p = q))) := by
  simp only [oNe, eqB, toPy_pair, Option.bind_some, shaped_p, Bool.and_self, if_true, eqv_pair, Option.map_some]
/-! ### lists of pairs are changed -/
theorem gInsert_T {ss : Dic} {i : Nat} {p : Row × Int} (h1 : i ≤ ss.length) (h2 : ss.length < 16777216) : gInsert (encT ss) [.int i, pairV p] = some (.non, encT (ss.take i ++ [p] ++ ss.drop i)) := by
  have h0 : (0 : Int) ≤ i := by omega
  simp only [gInsert, encT_len, sizeLine_eq]
  rw [if_pos ⟨h2, h0, ltA_of (by omega)⟩]
  simp only [encT, List.map_append, List.map_take, List.map_drop, List.map_cons, List.map_nil, Int.toNat_natCast]
theorem gAppend_T {ss : Dic} {p : Row × Int} (h2 : ss.length < 16777216) : gAppend (encT ss) [pairV p] = some (.non, encT (ss ++ [p])) := by
  simp only [gAppend, encT_len, sizeLine_eq, encT_app]
  rw [if_pos h2]; rfl
theorem gPop_T {ss : Dic} {i : Nat} (h1 : i < ss.length) (h2 : ss.length < 16777216) : gPop (encT ss) [.int i] = some (pairV ss[i], encT (ss.eraseIdx i)) := by
  have e1 : seqIndex? (i : Int) (encT ss).length = some i := (ixN_seq (by rw [encT_len]; unfold ixN; rw [if_pos (by omega), if_pos (by omega)]; simp)).1
  have e2 : (encT ss)[i]? = some (pairV ss[i]) := by rw [encT, List.getElem?_map, List.getElem?_eq_getElem h1]; rfl
  simp only [gPop]
  rw [if_pos (ltA_of (by omega)), e1]
  simp only [e2, Option.map_some]
  simp only [encT, erase_map]
theorem putW_T {ss : Dic} {i : Nat} {p : Row × Int} (h1 : i < ss.length) : putW (.lst true (encT ss)) (.int i) (pairV p) = some (.lst true (encT (ss.set i p))) := by
  have e1 : ixN (encT ss).length (i : Int) = some i := by rw [encT_len]; unfold ixN; rw [if_pos (by omega), if_pos (by omega)]; simp
  simp only [putW, e1, Option.map_some]
  simp only [encT, List.map_set]
end RT

namespace RT
open L2 PyProof.Rows PySem.Spec PySem L2.DL SX
theorem gTupN_ap (ws : List Val) : gTupN ws = if (noOwns ws && decide (ws.length ≤ sizeLine)) = true then some (.tup ws) else none := rfl
theorem gLstN_ap (ws : List Val) : gLstN ws = if (noOwns ws && decide (ws.length ≤ sizeLine)) = true then some (.lst true ws) else none := rfl
theorem gTupM_ap (ws : List Val) : gTupM ws = if ws.length ≤ sizeLine then some (.tup ws) else none := rfl
theorem gLstM_ap (ws : List Val) : gLstM ws = if ws.length ≤ sizeLine then some (.lst true ws) else none := rfl
theorem sz0 : (0 ≤ sizeLine) = True := eq_true (by decide)
theorem sz1 : (1 ≤ sizeLine) = True := eq_true (by decide)
theorem sz2 : (2 ≤ sizeLine) = True := eq_true (by decide)
theorem sz3 : (3 ≤ sizeLine) = True := eq_true (by decide)
theorem sz4 : (4 ≤ sizeLine) = True := eq_true (by decide)
theorem sz7 : (7 ≤ sizeLine) = True := eq_true (by decide)
theorem sz10 : (10 ≤ sizeLine) = True := eq_true (by decide)
/-! ### a dict as a tally -/
def okKeys (D : Dic) : Prop := (∀ r ∈ D.map Prod.fst, r ≠ []) ∨ D.length ≤ 1
theorem settled_spec {o : Bool} {D : Dic} (h : okKeys D) (hl : D.length ≤ 16777216) : m_law_settled [dV o D] = .ok (.lst true (encT (settle D))) := by
  unfold m_law_settled fnP g_law_settled
  have os := oSorted_R (o := true) (l := D.map Prod.fst) (by
    rcases h with h | h
    · exact .inl h
    · exact .inr (by rw [List.length_map]; exact h))
  have cp : compP [1] gN (pTest (pOp2 oNe (pOp2 oSubs (pVar 0) (pVar 1)) (pC (.int 0)))) (pOpS gTupN (psCons (pVar 1) (psCons (pOp2 oSubs (pVar 0) (pVar 1)) psNil))) [some (dV o D), none] (encR (sortR (D.map Prod.fst))) = some (encT (settle D)) := by
    unfold encR
    rw [compP_filter (fun r : Row => Val.tup (encI r)) (fun r => pairV (r, get0 D r)) (fun r => get0 D r != 0) _ fun r hr => ?_]
    · simp only [settle, encT, List.map_map, Function.comp_def]
    · have hm : r ∈ D.map Prod.fst := (sortR_perm _).mem_iff.mp hr
      have e := oSubs_D (o := o) hm
      refine ⟨[.tup (encI r)], rfl, ?_, fun _ => ?_⟩
      · simp only [sSeq_ap, sNil_ap, sIf_ap, sSet_ap, sRet_ap, sRetN_ap, sDrop_ap, sAsg_ap, sFor_ap, sAug_ap, sAugL_ap, sPut_ap, mT_ap, mTest_ap, mF_ap, mP_ap, mMove_ap, mFrz_ap, mFz_ap, sRaiseI_ap, mOp2_ap, mOp1_ap, mOpS_ap, mIx_ap, mIxL_ap, mIte_ap, mNot_ap, mAnd_ap, mOr_ap, mAndV_ap, mOrV_ap, msNil_ap, msCons_ap, psNil_ap, psCons_ap, pVar_ap, pC_ap, pOp1_ap, pOp2_ap, pOpS_ap, pTest_ap, pNot_ap, pAnd_ap, pOr_ap, pVal_ap, pAndV_ap, pOrV_ap, pIte_ap, pChain_ap, pNo_ap, poNone_ap, poSome_ap, pSl_ap, pSeq_ap, mSeq_ap, pRng_ap, mRng_ap, pComp_ap, mComp_ap, pYes_ap, pMet_ap, mMet_ap, mMeth_ap, pIsi_ap, pGet2_ap, aNil_ap, aSlot_ap, aVal_ap, mCallIO_ap, mCall_ap, mCallP_ap, mCallPB_ap, oIsN_ap, oNotN_ap, oAdd_int, oSub_int, ipAdd_int, ipSub_int, oLt_int, oLe_int, oGt_int, oGe_int, oLt_str, oLe_str, oGt_str, oGe_str, oEq_int, oNe_int, oEq_bl, oNeg_int, oSubs_lst, oSubs_tup, oIx_lst, oIx_tup, oLen_lst, oLen_tup, oIn_str, oNotIn_str, seqOf_str, seqOf_tup, seqOf_lst, startS, RS.seq_nx, RS.seq_ret, RS.seq_brk, RS.seq_ct, RS.seq_err, RS.seq_bad, L2.DL.R.bind_ok, L2.DL.R.bind_err, L2.DL.R.bind_bad, rS_ok, rS_err, rS_bad, Option.bind_some, Option.bind_none, Option.map_some, Option.map_none, Option.join_some, gN, noOwn, noOwns, noObj, noObjs, noSh, noShs, frz, frzs, List.map_cons, List.map_nil, List.getElem?_cons_zero, List.getElem?_cons_succ, List.set_cons_zero, List.set_cons_succ, List.length_cons, List.length_nil, List.cons_append, List.nil_append, List.replicate, setS_nil, setS_cons, gsNil, gsCons, gTn, Bool.and_true, Bool.true_and, Bool.and_false, Bool.false_and, Bool.or_true, Bool.true_or, Bool.or_false, Bool.false_or, Bool.not_true, Bool.not_false, Bool.and_self, if_true, if_false, Bool.false_eq_true, reduceIte, decide_true, decide_false, callIO, callPB, gatherA, backA, List.take_succ_cons, List.take_zero, atI0, atI1, atI2, atI3, Nat.reduceAdd, Nat.reduceSub, Int.reduceLT, Int.reduceLE, Int.reduceNeg, Int.reduceAdd, Int.reduceSub, Int.reduceMul, Nat.reduceLT, Nat.reduceLeDiff, Int.reduceEq, Int.reduceBEq, e]
        rfl
      · simp only [sSeq_ap, sNil_ap, sIf_ap, sSet_ap, sRet_ap, sRetN_ap, sDrop_ap, sAsg_ap, sFor_ap, sAug_ap, sAugL_ap, sPut_ap, mT_ap, mTest_ap, mF_ap, mP_ap, mMove_ap, mFrz_ap, mFz_ap, sRaiseI_ap, mOp2_ap, mOp1_ap, mOpS_ap, mIx_ap, mIxL_ap, mIte_ap, mNot_ap, mAnd_ap, mOr_ap, mAndV_ap, mOrV_ap, msNil_ap, msCons_ap, psNil_ap, psCons_ap, pVar_ap, pC_ap, pOp1_ap, pOp2_ap, pOpS_ap, pTest_ap, pNot_ap, pAnd_ap, pOr_ap, pVal_ap, pAndV_ap, pOrV_ap, pIte_ap, pChain_ap, pNo_ap, poNone_ap, poSome_ap, pSl_ap, pSeq_ap, mSeq_ap, pRng_ap, mRng_ap, pComp_ap, mComp_ap, pYes_ap, pMet_ap, mMet_ap, mMeth_ap, pIsi_ap, pGet2_ap, aNil_ap, aSlot_ap, aVal_ap, mCallIO_ap, mCall_ap, mCallP_ap, mCallPB_ap, oIsN_ap, oNotN_ap, oAdd_int, oSub_int, ipAdd_int, ipSub_int, oLt_int, oLe_int, oGt_int, oGe_int, oLt_str, oLe_str, oGt_str, oGe_str, oEq_int, oNe_int, oEq_bl, oNeg_int, oSubs_lst, oSubs_tup, oIx_lst, oIx_tup, oLen_lst, oLen_tup, oIn_str, oNotIn_str, seqOf_str, seqOf_tup, seqOf_lst, startS, RS.seq_nx, RS.seq_ret, RS.seq_brk, RS.seq_ct, RS.seq_err, RS.seq_bad, L2.DL.R.bind_ok, L2.DL.R.bind_err, L2.DL.R.bind_bad, rS_ok, rS_err, rS_bad, Option.bind_some, Option.bind_none, Option.map_some, Option.map_none, Option.join_some, gN, noOwn, noOwns, noObj, noObjs, noSh, noShs, frz, frzs, List.map_cons, List.map_nil, List.getElem?_cons_zero, List.getElem?_cons_succ, List.set_cons_zero, List.set_cons_succ, List.length_cons, List.length_nil, List.cons_append, List.nil_append, List.replicate, setS_nil, setS_cons, gsNil, gsCons, gTn, Bool.and_true, Bool.true_and, Bool.and_false, Bool.false_and, Bool.or_true, Bool.true_or, Bool.or_false, Bool.false_or, Bool.not_true, Bool.not_false, Bool.and_self, if_true, if_false, Bool.false_eq_true, reduceIte, decide_true, decide_false, callIO, callPB, gatherA, backA, List.take_succ_cons, List.take_zero, atI0, atI1, atI2, atI3, Nat.reduceAdd, Nat.reduceSub, Int.reduceLT, Int.reduceLE, Int.reduceNeg, Int.reduceAdd, Int.reduceSub, Int.reduceMul, Nat.reduceLT, Nat.reduceLeDiff, Int.reduceEq, Int.reduceBEq, e, gTupN_ap, noOwns_I, sz2, pairV]
  have w1 : ∀ a b, wipeS [a, b] [1] = [a, none] := fun _ _ => rfl
  have lz : (encT (settle D)).length ≤ sizeLine := by
    rw [encT_len, sizeLine_eq, settle, List.length_map]
    refine Nat.le_trans (List.length_filter_le _ _) ?_
    rw [(sortR_perm _).length_eq, List.length_map]; exact hl
  simp only [sSeq_ap, sNil_ap, sIf_ap, sSet_ap, sRet_ap, sRetN_ap, sDrop_ap, sAsg_ap, sFor_ap, sAug_ap, sAugL_ap, sPut_ap, mT_ap, mTest_ap, mF_ap, mP_ap, mMove_ap, mFrz_ap, mFz_ap, sRaiseI_ap, mOp2_ap, mOp1_ap, mOpS_ap, mIx_ap, mIxL_ap, mIte_ap, mNot_ap, mAnd_ap, mOr_ap, mAndV_ap, mOrV_ap, msNil_ap, msCons_ap, psNil_ap, psCons_ap, pVar_ap, pC_ap, pOp1_ap, pOp2_ap, pOpS_ap, pTest_ap, pNot_ap, pAnd_ap, pOr_ap, pVal_ap, pAndV_ap, pOrV_ap, pIte_ap, pChain_ap, pNo_ap, poNone_ap, poSome_ap, pSl_ap, pSeq_ap, mSeq_ap, pRng_ap, mRng_ap, pComp_ap, mComp_ap, pYes_ap, pMet_ap, mMet_ap, mMeth_ap, pIsi_ap, pGet2_ap, aNil_ap, aSlot_ap, aVal_ap, mCallIO_ap, mCall_ap, mCallP_ap, mCallPB_ap, oIsN_ap, oNotN_ap, oAdd_int, oSub_int, ipAdd_int, ipSub_int, oLt_int, oLe_int, oGt_int, oGe_int, oLt_str, oLe_str, oGt_str, oGe_str, oEq_int, oNe_int, oEq_bl, oNeg_int, oSubs_lst, oSubs_tup, oIx_lst, oIx_tup, oLen_lst, oLen_tup, oIn_str, oNotIn_str, seqOf_str, seqOf_tup, seqOf_lst, startS, RS.seq_nx, RS.seq_ret, RS.seq_brk, RS.seq_ct, RS.seq_err, RS.seq_bad, L2.DL.R.bind_ok, L2.DL.R.bind_err, L2.DL.R.bind_bad, rS_ok, rS_err, rS_bad, Option.bind_some, Option.bind_none, Option.map_some, Option.map_none, Option.join_some, gN, noOwn, noOwns, noObj, noObjs, noSh, noShs, frz, frzs, List.map_cons, List.map_nil, List.getElem?_cons_zero, List.getElem?_cons_succ, List.set_cons_zero, List.set_cons_succ, List.length_cons, List.length_nil, List.cons_append, List.nil_append, List.replicate, setS_nil, setS_cons, gsNil, gsCons, gTn, Bool.and_true, Bool.true_and, Bool.and_false, Bool.false_and, Bool.or_true, Bool.true_or, Bool.or_false, Bool.false_or, Bool.not_true, Bool.not_false, Bool.and_self, if_true, if_false, Bool.false_eq_true, reduceIte, decide_true, decide_false, callIO, callPB, gatherA, backA, List.take_succ_cons, List.take_zero, atI0, atI1, atI2, atI3, Nat.reduceAdd, Nat.reduceSub, Int.reduceLT, Int.reduceLE, Int.reduceNeg, Int.reduceAdd, Int.reduceSub, Int.reduceMul, Nat.reduceLT, Nat.reduceLeDiff, Int.reduceEq, Int.reduceBEq, oList_D, os, w1, cp, lz]
theorem noObj_D (o : Bool) (D : Dic) : noObj (dV o D) = true := by simp only [dV, noObj, noObjs_I]
theorem frz_D (o : Bool) (D : Dic) : frz (dV o D) = dV false D := by simp only [dV, frz, frzs_I]
theorem noOwn_D (o : Bool) (D : Dic) : noOwn (dV o D) = !o := by simp only [dV, noOwn, noOwns_I, Bool.and_true]
theorem noSh_D (o : Bool) (D : Dic) : noSh (dV o D) = o := by simp only [dV, noSh, noShs_I, Bool.and_true]
theorem settled_call {o : Bool} {D : Dic} (h : okKeys D) (hl : D.length ≤ 16777216) : callP m_law_settled [dV o D] = some (.lst true (encT (settle D))) := by
  simp only [callP, noObjs, noObj_D, frzs, frz_D, settled_spec h hl, noSh, noShs_T, sSeq_ap, sNil_ap, sIf_ap, sSet_ap, sRet_ap, sRetN_ap, sDrop_ap, sAsg_ap, sFor_ap, sAug_ap, sAugL_ap, sPut_ap, mT_ap, mTest_ap, mF_ap, mP_ap, mMove_ap, mFrz_ap, mFz_ap, sRaiseI_ap, mOp2_ap, mOp1_ap, mOpS_ap, mIx_ap, mIxL_ap, mIte_ap, mNot_ap, mAnd_ap, mOr_ap, mAndV_ap, mOrV_ap, msNil_ap, msCons_ap, psNil_ap, psCons_ap, pVar_ap, pC_ap, pOp1_ap, pOp2_ap, pOpS_ap, pTest_ap, pNot_ap, pAnd_ap, pOr_ap, pVal_ap, pAndV_ap, pOrV_ap, pIte_ap, pChain_ap, pNo_ap, poNone_ap, poSome_ap, pSl_ap, pSeq_ap, mSeq_ap, pRng_ap, mRng_ap, pComp_ap, mComp_ap, pYes_ap, pMet_ap, mMet_ap, mMeth_ap, pIsi_ap, pGet2_ap, aNil_ap, aSlot_ap, aVal_ap, mCallIO_ap, mCall_ap, mCallP_ap, mCallPB_ap, oIsN_ap, oNotN_ap, oAdd_int, oSub_int, ipAdd_int, ipSub_int, oLt_int, oLe_int, oGt_int, oGe_int, oLt_str, oLe_str, oGt_str, oGe_str, oEq_int, oNe_int, oEq_bl, oNeg_int, oSubs_lst, oSubs_tup, oIx_lst, oIx_tup, oLen_lst, oLen_tup, oIn_str, oNotIn_str, seqOf_str, seqOf_tup, seqOf_lst, startS, RS.seq_nx, RS.seq_ret, RS.seq_brk, RS.seq_ct, RS.seq_err, RS.seq_bad, L2.DL.R.bind_ok, L2.DL.R.bind_err, L2.DL.R.bind_bad, rS_ok, rS_err, rS_bad, Option.bind_some, Option.bind_none, Option.map_some, Option.map_none, Option.join_some, gN, noOwn, noOwns, noObj, noObjs, noSh, noShs, frz, frzs, List.map_cons, List.map_nil, List.getElem?_cons_zero, List.getElem?_cons_succ, List.set_cons_zero, List.set_cons_succ, List.length_cons, List.length_nil, List.cons_append, List.nil_append, List.replicate, setS_nil, setS_cons, gsNil, gsCons, gTn, Bool.and_true, Bool.true_and, Bool.and_false, Bool.false_and, Bool.or_true, Bool.true_or, Bool.or_false, Bool.false_or, Bool.not_true, Bool.not_false, Bool.and_self, if_true, if_false, Bool.false_eq_true, reduceIte, decide_true, decide_false, callIO, callPB, gatherA, backA, List.take_succ_cons, List.take_zero, atI0, atI1, atI2, atI3, Nat.reduceAdd, Nat.reduceSub, Int.reduceLT, Int.reduceLE, Int.reduceNeg, Int.reduceAdd, Int.reduceSub, Int.reduceMul, Nat.reduceLT, Nat.reduceLeDiff, Int.reduceEq, Int.reduceBEq]
/-! ### drawn counts -/
theorem many_spec {nums : List Int} {at_ left salt : Int} (h0 : 0 ≤ at_) :
    ∃ at' left' c, 0 ≤ at' ∧ 1 ≤ c ∧ c ≤ 1000000000000 ∧ m_law_many [bagV nums at_ left salt] = .ok (.int c) [some (bagV nums at' left' salt)] := by
  obtain ⟨at1, left1, r1, h1, hr0, hr1, e1⟩ := pull_spec (nums := nums) (left := left) (salt := salt) (many := 4) h0 (by decide) (by decide)
  have ix : ∃ v : Int, 1 ≤ v ∧ v ≤ 1000000000000 ∧ oIx (.lst true [.int 1, .int 3, .int 9, .int 1000000000000]) (.int r1) = some (.int v) := by
    obtain ⟨w, hw, ew⟩ := atI_lt (xs := [Val.int 1, .int 3, .int 9, .int 1000000000000]) hr0 hr1
    simp only [List.mem_cons, List.not_mem_nil, or_false] at hw
    rcases hw with rfl | rfl | rfl | rfl <;> exact ⟨_, by decide, by decide, ew⟩
  obtain ⟨v, v0, v1, ev⟩ := ix
  obtain ⟨at2, left2, r2, h2, hr20, hr21, e2⟩ := pull_big (nums := nums) (left := left1) (salt := salt) (many := v) h1 (by omega) (by omega)
  have op : oPow (.int 10) (.int 12) = some (.int 1000000000000) := rfl
  refine ⟨at2, left2, 1 + r2, h2, by omega, by omega, ?_⟩
  unfold m_law_many fnIO g_law_many
  simp only [sSeq_ap, sNil_ap, sIf_ap, sSet_ap, sRet_ap, sRetN_ap, sDrop_ap, sAsg_ap, sFor_ap, sAug_ap, sAugL_ap, sPut_ap, mT_ap, mTest_ap, mF_ap, mP_ap, mMove_ap, mFrz_ap, mFz_ap, sRaiseI_ap, mOp2_ap, mOp1_ap, mOpS_ap, mIx_ap, mIxL_ap, mIte_ap, mNot_ap, mAnd_ap, mOr_ap, mAndV_ap, mOrV_ap, msNil_ap, msCons_ap, psNil_ap, psCons_ap, pVar_ap, pC_ap, pOp1_ap, pOp2_ap, pOpS_ap, pTest_ap, pNot_ap, pAnd_ap, pOr_ap, pVal_ap, pAndV_ap, pOrV_ap, pIte_ap, pChain_ap, pNo_ap, poNone_ap, poSome_ap, pSl_ap, pSeq_ap, mSeq_ap, pRng_ap, mRng_ap, pComp_ap, mComp_ap, pYes_ap, pMet_ap, mMet_ap, mMeth_ap, pIsi_ap, pGet2_ap, aNil_ap, aSlot_ap, aVal_ap, mCallIO_ap, mCall_ap, mCallP_ap, mCallPB_ap, oIsN_ap, oNotN_ap, oAdd_int, oSub_int, ipAdd_int, ipSub_int, oLt_int, oLe_int, oGt_int, oGe_int, oLt_str, oLe_str, oGt_str, oGe_str, oEq_int, oNe_int, oEq_bl, oNeg_int, oSubs_lst, oSubs_tup, oIx_lst, oIx_tup, oLen_lst, oLen_tup, oIn_str, oNotIn_str, seqOf_str, seqOf_tup, seqOf_lst, startS, RS.seq_nx, RS.seq_ret, RS.seq_brk, RS.seq_ct, RS.seq_err, RS.seq_bad, L2.DL.R.bind_ok, L2.DL.R.bind_err, L2.DL.R.bind_bad, rS_ok, rS_err, rS_bad, Option.bind_some, Option.bind_none, Option.map_some, Option.map_none, Option.join_some, gN, noOwn, noOwns, noObj, noObjs, noSh, noShs, frz, frzs, List.map_cons, List.map_nil, List.getElem?_cons_zero, List.getElem?_cons_succ, List.set_cons_zero, List.set_cons_succ, List.length_cons, List.length_nil, List.cons_append, List.nil_append, List.replicate, setS_nil, setS_cons, gsNil, gsCons, gTn, Bool.and_true, Bool.true_and, Bool.and_false, Bool.false_and, Bool.or_true, Bool.true_or, Bool.or_false, Bool.false_or, Bool.not_true, Bool.not_false, Bool.and_self, if_true, if_false, Bool.false_eq_true, reduceIte, decide_true, decide_false, callIO, callPB, gatherA, backA, List.take_succ_cons, List.take_zero, atI0, atI1, atI2, atI3, Nat.reduceAdd, Nat.reduceSub, Int.reduceLT, Int.reduceLE, Int.reduceNeg, Int.reduceAdd, Int.reduceSub, Int.reduceMul, Nat.reduceLT, Nat.reduceLeDiff, Int.reduceEq, Int.reduceBEq, gLstN_ap, sz4, op, e1, ev, e2]
/-! ### drawn tallies -/
structure DicOk (n : Nat) (base : Int) (D : Dic) : Prop where
  nd : (D.map Prod.fst).Nodup
  row : ∀ p ∈ D, p.1.length = n ∧ ∀ c ∈ p.1, 0 ≤ c ∧ c < base
  cnt : ∀ p ∈ D, 1 ≤ p.2 ∧ p.2 ≤ 1000000000000
theorem put_mem {D : Dic} {r : Row} {c : Int} {p : Row × Int} (h : p ∈ put D r c) : p ∈ D ∨ p = (r, c) := by
  unfold put at h
  split at h
  · obtain ⟨q, hq, e⟩ := List.mem_map.mp h
    by_cases e2 : q.1 = r
    · rw [if_pos e2] at e; right; rw [← e, e2]
    · rw [if_neg e2] at e; left; rw [← e]; exact hq
  · rcases List.mem_append.mp h with h | h
    · exact .inl h
    · exact .inr (List.mem_singleton.mp h)
theorem DicOk.put {n : Nat} {base : Int} {D : Dic} (k : DicOk n base D) {r : Row} {c : Int} (h1 : r.length = n) (h2 : ∀ c ∈ r, 0 ≤ c ∧ c < base) (h3 : 1 ≤ c ∧ c ≤ 1000000000000) : DicOk n base (put D r c) := by
  refine ⟨put_nodup r c k.nd, fun p hp => ?_, fun p hp => ?_⟩
  · rcases put_mem hp with hp | rfl
    · exact k.row p hp
    · exact ⟨h1, h2⟩
  · rcases put_mem hp with hp | rfl
    · exact k.cnt p hp
    · exact h3
theorem okKeys_of {n : Nat} {D : Dic} (nd : (D.map Prod.fst).Nodup) (h : ∀ p ∈ D, p.1.length = n) : okKeys D := by
  by_cases hn : n = 0
  · right
    subst hn
    match D, nd, h with
    | [], _, _ => decide
    | [_], _, _ => exact Nat.le_refl _
    | p :: q :: D, nd, h =>
      exfalso
      have h1 := List.eq_nil_of_length_eq_zero (h p List.mem_cons_self)
      have h2 := List.eq_nil_of_length_eq_zero (h q (List.mem_cons_of_mem _ List.mem_cons_self))
      rw [List.map_cons, List.map_cons, List.nodup_cons] at nd
      exact nd.1 (by rw [h1, h2]; exact List.mem_cons_self)
  · left
    intro r hr e
    obtain ⟨p, hp, e2⟩ := List.mem_map.mp hr
    have := h p hp
    rw [e2, e] at this
    exact hn this.symm
theorem drawn_loop {nums : List Int} {salt base : Int} {n : Nat} {rm : Val} (hrm : oLen [rm] = some (.int n)) (hn : n ≤ 100000) (hb : 0 < base) (hb2 : base < 1073741824) : ∀ (ws : List Val) (D : Dic) (at_ left : Int) (x : Option Val), 0 ≤ at_ → noOwns ws = true → DicOk n base D → D.length + ws.length ≤ 100000 →
    ∃ (D' : Dic) (at' left' : Int) (x' : Option Val), 0 ≤ at' ∧ DicOk n base D' ∧ D'.length ≤ D.length + ws.length ∧
      forL [4] gN l1_law_drawn ws [some (bagV nums at_ left salt), some rm, some (dV true D), some (.int base), x] = .nx [some (bagV nums at' left' salt), some rm, some (dV true D'), some (.int base), x']
  | [], D, at_, left, x, h0, _, hk, _ => ⟨D, at_, left, x, h0, hk, Nat.le_refl _, rfl⟩
  | w :: ws, D, at_, left, x, h0, hw, hk, hl => by
    simp only [noOwns, Bool.and_eq_true] at hw
    simp only [List.length_cons] at hl
    obtain ⟨at1, left1, c, h1, c0, c1, e1⟩ := many_spec (nums := nums) (left := left) (salt := salt) h0
    obtain ⟨at2, left2, r, h2, l2, m2, e2⟩ := answers_spec (nums := nums) (left := left1) (salt := salt) (size := n) (base := base) h1 (by omega) (by omega) hb hb2
    have pl := put_len D r c
    obtain ⟨D', at3, left3, x', h3, k3, l3, e3⟩ := drawn_loop hrm hn hb hb2 ws (put D r c) at2 left2 (some w) h2 hw.2 (hk.put (by omega) m2 ⟨c0, c1⟩) (by omega)
    refine ⟨D', at3, left3, x', h3, k3, by simp only [List.length_cons]; omega, ?_⟩
    have pw := putW_D (D := D) (r := r) (c := c) (by omega)
    rw [forL]
    simp only [sSeq_ap, sNil_ap, sIf_ap, sSet_ap, sRet_ap, sRetN_ap, sDrop_ap, sAsg_ap, sFor_ap, sAug_ap, sAugL_ap, sPut_ap, mT_ap, mTest_ap, mF_ap, mP_ap, mMove_ap, mFrz_ap, mFz_ap, sRaiseI_ap, mOp2_ap, mOp1_ap, mOpS_ap, mIx_ap, mIxL_ap, mIte_ap, mNot_ap, mAnd_ap, mOr_ap, mAndV_ap, mOrV_ap, msNil_ap, msCons_ap, psNil_ap, psCons_ap, pVar_ap, pC_ap, pOp1_ap, pOp2_ap, pOpS_ap, pTest_ap, pNot_ap, pAnd_ap, pOr_ap, pVal_ap, pAndV_ap, pOrV_ap, pIte_ap, pChain_ap, pNo_ap, poNone_ap, poSome_ap, pSl_ap, pSeq_ap, mSeq_ap, pRng_ap, mRng_ap, pComp_ap, mComp_ap, pYes_ap, pMet_ap, mMet_ap, mMeth_ap, pIsi_ap, pGet2_ap, aNil_ap, aSlot_ap, aVal_ap, mCallIO_ap, mCall_ap, mCallP_ap, mCallPB_ap, oIsN_ap, oNotN_ap, oAdd_int, oSub_int, ipAdd_int, ipSub_int, oLt_int, oLe_int, oGt_int, oGe_int, oLt_str, oLe_str, oGt_str, oGe_str, oEq_int, oNe_int, oEq_bl, oNeg_int, oSubs_lst, oSubs_tup, oIx_lst, oIx_tup, oLen_lst, oLen_tup, oIn_str, oNotIn_str, seqOf_str, seqOf_tup, seqOf_lst, startS, RS.seq_nx, RS.seq_ret, RS.seq_brk, RS.seq_ct, RS.seq_err, RS.seq_bad, L2.DL.R.bind_ok, L2.DL.R.bind_err, L2.DL.R.bind_bad, rS_ok, rS_err, rS_bad, Option.bind_some, Option.bind_none, Option.map_some, Option.map_none, Option.join_some, gN, noOwn, noOwns, noObj, noObjs, noSh, noShs, frz, frzs, List.map_cons, List.map_nil, List.getElem?_cons_zero, List.getElem?_cons_succ, List.set_cons_zero, List.set_cons_succ, List.length_cons, List.length_nil, List.cons_append, List.nil_append, List.replicate, setS_nil, setS_cons, gsNil, gsCons, gTn, Bool.and_true, Bool.true_and, Bool.and_false, Bool.false_and, Bool.or_true, Bool.true_or, Bool.or_false, Bool.false_or, Bool.not_true, Bool.not_false, Bool.and_self, if_true, if_false, Bool.false_eq_true, reduceIte, decide_true, decide_false, callIO, callPB, gatherA, backA, List.take_succ_cons, List.take_zero, atI0, atI1, atI2, atI3, Nat.reduceAdd, Nat.reduceSub, Int.reduceLT, Int.reduceLE, Int.reduceNeg, Int.reduceAdd, Int.reduceSub, Int.reduceMul, Nat.reduceLT, Nat.reduceLeDiff, Int.reduceEq, Int.reduceBEq, hw.1, l1_law_drawn, e1, hrm, e2, pw]
    exact e3
/-- a tally's rows and counts -/
structure TalOk (n : Nat) (l : Dic) : Prop where
  nd : (l.map Prod.fst).Nodup
  row : ∀ p ∈ l, p.1.length = n ∧ ∀ c ∈ p.1, 0 ≤ c ∧ c < 10
  cnt : ∀ p ∈ l, 1 ≤ p.2 ∧ p.2 ≤ 1000000000000
theorem settle_keys (D : Dic) : (settle D).map Prod.fst = (sortR (D.map Prod.fst)).filter fun r => get0 D r != 0 := by
  rw [settle, List.map_map]
  exact List.map_id _
theorem mem_settle {D : Dic} {p : Row × Int} (h : p ∈ settle D) : p.1 ∈ D.map Prod.fst ∧ p.2 = get0 D p.1 ∧ p.2 ≠ 0 := by
  obtain ⟨r, hr, rfl⟩ := List.mem_map.mp h
  obtain ⟨h1, h2⟩ := List.mem_filter.mp hr
  exact ⟨(sortR_perm _).mem_iff.mp h1, rfl, by simpa using h2⟩
theorem settle_nodup {D : Dic} (h : (D.map Prod.fst).Nodup) : ((settle D).map Prod.fst).Nodup := by
  rw [settle_keys]
  exact List.Pairwise.filter _ ((sortR_perm _).nodup_iff.mpr h)
theorem get0_mem {D : Dic} {r : Row} (h : r ∈ D.map Prod.fst) : (r, get0 D r) ∈ D := by
  have e := look_mem h
  generalize get0 D r = c at e
  clear h
  induction D with
  | nil => cases e
  | cons p D ih =>
    rw [look] at e
    by_cases q : p.1 = r
    · rw [if_pos q] at e
      cases e
      rw [← q]; exact List.mem_cons_self
    · rw [if_neg q] at e
      exact List.mem_cons_of_mem _ (ih e)
theorem settle_len {D : Dic} : (settle D).length ≤ D.length := by
  rw [settle, List.length_map]
  refine Nat.le_trans (List.length_filter_le _ _) ?_
  rw [(sortR_perm _).length_eq, List.length_map]; exact Nat.le_refl _
theorem DicOk.tal {n : Nat} {base : Int} {D : Dic} (k : DicOk n base D) (hb : base ≤ 10) : TalOk n (settle D) := by
  refine ⟨settle_nodup k.nd, fun p hp => ?_, fun p hp => ?_⟩
  · obtain ⟨h1, h2, h3⟩ := mem_settle hp
    have := k.row _ (get0_mem h1)
    exact ⟨this.1, fun c hc => ⟨(this.2 c hc).1, by have := (this.2 c hc).2; omega⟩⟩
  · obtain ⟨h1, h2, h3⟩ := mem_settle hp
    rw [h2]
    exact k.cnt _ (get0_mem h1)
theorem drawn_spec {nums : List Int} {at_ left salt : Int} {n : Nat} {rm : Val} (hrm : oLen [rm] = some (.int n)) (hn : n ≤ 100000) (h0 : 0 ≤ at_) :
    ∃ (at' left' : Int) (D : Dic), 0 ≤ at' ∧ DicOk n 10 D ∧ D.length ≤ 40 ∧ m_law_drawn [bagV nums at_ left salt, rm] = .ok (.lst true (encT (settle D))) [some (bagV nums at' left' salt), some rm] := by
  obtain ⟨at1, left1, r1, h1, hr0, hr1, e1⟩ := pull_spec (nums := nums) (left := left) (salt := salt) (many := 4) h0 (by decide) (by decide)
  have ix : ∃ v : Int, 1 ≤ v ∧ v ≤ 10 ∧ oIx (.lst true [.int 2, .int 2, .int 3, .int 10]) (.int r1) = some (.int v) := by
    obtain ⟨w, hw, ew⟩ := atI_lt (xs := [Val.int 2, .int 2, .int 3, .int 10]) hr0 hr1
    simp only [List.mem_cons, List.not_mem_nil, or_false] at hw
    rcases hw with rfl | rfl | rfl | rfl <;> exact ⟨_, by decide, by decide, ew⟩
  obtain ⟨base, b0, b1, eb⟩ := ix
  obtain ⟨at2, left2, r2, h2, hr20, hr21, e2⟩ := pull_spec (nums := nums) (left := left1) (salt := salt) (many := 10) h1 (by decide) (by decide)
  have ix : ∃ v : Int, 0 ≤ v ∧ v ≤ 40 ∧ oIx (.lst true [.int 3, .int 2, .int 1, .int 0, .int 5, .int 8, .int 12, .int 4, .int 2, .int 40]) (.int r2) = some (.int v) := by
    obtain ⟨w, hw, ew⟩ := atI_lt (xs := [Val.int 3, .int 2, .int 1, .int 0, .int 5, .int 8, .int 12, .int 4, .int 2, .int 40]) hr20 hr21
    simp only [List.mem_cons, List.not_mem_nil, or_false] at hw
    rcases hw with rfl | rfl | rfl | rfl | rfl | rfl | rfl | rfl | rfl | rfl <;> exact ⟨_, by decide, by decide, ew⟩
  obtain ⟨v, v0, v1, ev⟩ := ix
  have rl := rng_len 0 v
  obtain ⟨D, at3, left3, x', h3, k3, l3, e3⟩ := drawn_loop (nums := nums) (salt := salt) hrm hn (by omega : 0 < base) (by omega) (rng 0 v) [] at2 left2 none h2 (rng_no _ _) ⟨List.nodup_nil, fun _ h => by (cases h), fun _ h => by (cases h)⟩ (by rw [rl]; simp only [List.length_nil]; omega)
  have k10 : DicOk n 10 D := ⟨k3.nd, fun p hp => ⟨(k3.row p hp).1, fun c hc => ⟨((k3.row p hp).2 c hc).1, by have := ((k3.row p hp).2 c hc).2; omega⟩⟩, k3.cnt⟩
  have hl : D.length ≤ 40 := by rw [rl] at l3; simp only [List.length_nil] at l3; omega
  refine ⟨at3, left3, D, h3, k10, hl, ?_⟩
  have sc := settled_call (o := true) (okKeys_of k3.nd fun p hp => (k3.row p hp).1) (by omega)
  have r1 := rngOf_one (j := v) (by omega) (by omega)
  have d0 : pDNewT = fun _ => some (dV true []) := rfl
  unfold m_law_drawn fnIO g_law_drawn
  simp only [sSeq_ap, sNil_ap, sIf_ap, sSet_ap, sRet_ap, sRetN_ap, sDrop_ap, sAsg_ap, sFor_ap, sAug_ap, sAugL_ap, sPut_ap, mT_ap, mTest_ap, mF_ap, mP_ap, mMove_ap, mFrz_ap, mFz_ap, sRaiseI_ap, mOp2_ap, mOp1_ap, mOpS_ap, mIx_ap, mIxL_ap, mIte_ap, mNot_ap, mAnd_ap, mOr_ap, mAndV_ap, mOrV_ap, msNil_ap, msCons_ap, psNil_ap, psCons_ap, pVar_ap, pC_ap, pOp1_ap, pOp2_ap, pOpS_ap, pTest_ap, pNot_ap, pAnd_ap, pOr_ap, pVal_ap, pAndV_ap, pOrV_ap, pIte_ap, pChain_ap, pNo_ap, poNone_ap, poSome_ap, pSl_ap, pSeq_ap, mSeq_ap, pRng_ap, mRng_ap, pComp_ap, mComp_ap, pYes_ap, pMet_ap, mMet_ap, mMeth_ap, pIsi_ap, pGet2_ap, aNil_ap, aSlot_ap, aVal_ap, mCallIO_ap, mCall_ap, mCallP_ap, mCallPB_ap, oIsN_ap, oNotN_ap, oAdd_int, oSub_int, ipAdd_int, ipSub_int, oLt_int, oLe_int, oGt_int, oGe_int, oLt_str, oLe_str, oGt_str, oGe_str, oEq_int, oNe_int, oEq_bl, oNeg_int, oSubs_lst, oSubs_tup, oIx_lst, oIx_tup, oLen_lst, oLen_tup, oIn_str, oNotIn_str, seqOf_str, seqOf_tup, seqOf_lst, startS, RS.seq_nx, RS.seq_ret, RS.seq_brk, RS.seq_ct, RS.seq_err, RS.seq_bad, L2.DL.R.bind_ok, L2.DL.R.bind_err, L2.DL.R.bind_bad, rS_ok, rS_err, rS_bad, Option.bind_some, Option.bind_none, Option.map_some, Option.map_none, Option.join_some, gN, noOwn, noOwns, noObj, noObjs, noSh, noShs, frz, frzs, List.map_cons, List.map_nil, List.getElem?_cons_zero, List.getElem?_cons_succ, List.set_cons_zero, List.set_cons_succ, List.length_cons, List.length_nil, List.cons_append, List.nil_append, List.replicate, setS_nil, setS_cons, gsNil, gsCons, gTn, Bool.and_true, Bool.true_and, Bool.and_false, Bool.false_and, Bool.or_true, Bool.true_or, Bool.or_false, Bool.false_or, Bool.not_true, Bool.not_false, Bool.and_self, if_true, if_false, Bool.false_eq_true, reduceIte, decide_true, decide_false, callIO, callPB, gatherA, backA, List.take_succ_cons, List.take_zero, atI0, atI1, atI2, atI3, Nat.reduceAdd, Nat.reduceSub, Int.reduceLT, Int.reduceLE, Int.reduceNeg, Int.reduceAdd, Int.reduceSub, Int.reduceMul, Nat.reduceLT, Nat.reduceLeDiff, Int.reduceEq, Int.reduceBEq, d0, gLstN_ap, sz4, sz10, e1, eb, e2, ev, r1, e3, sc]
end RT

namespace RT
open L2 PyProof.Rows PySem.Spec PySem L2.DL SX
/-! ### is_tally -/
/-- a room, known or not: only its size counts -/
structure RoomV (rm : Val) (n : Nat) : Prop where
  len : oLen [rm] = some (.int n)
  own : noOwn rm = true
  obj : noObj rm = true
  fr : frz rm = rm
theorem roomV_tpz (ss : List (List Nat)) : RoomV (.tpz (encN ss)) ss.length := ⟨by rw [oLen_tpz, encN_len], by simp only [noOwn, noOwns_N], by simp only [noObj, noObjs_N], by simp only [frz, frzs_N]⟩
theorem roomV_tup (ss : List (List Nat)) : RoomV (.tup (encN ss)) ss.length := ⟨by rw [oLen_tup, encN_len], by simp only [noOwn, noOwns_N], by simp only [noObj, noObjs_N], by simp only [frz, frzs_N]⟩
theorem row_specV {rm : Val} {n : Nat} (R : RoomV rm n) (l : List Int) : m_is_row [rm, .tup (encI l)] = .ok (.bl (isRw n l)) := by
  unfold m_is_row fnP g_is_row
  have ne : oNe (.int (encI l).length) (.int n) = some (.bl (!decide (l.length = n))) := by
    rw [oNe_int, encI_len, beq_nat]
  obtain ⟨x', e⟩ := row_loop (a := some rm) (b := some (.tup (encI l))) l none
  by_cases h : l.length = n
  · simp only [h, decide_true] at ne
    simp only [sSeq_ap, sNil_ap, sIf_ap, sSet_ap, sRet_ap, sRetN_ap, sDrop_ap, sAsg_ap, sFor_ap, sAug_ap, sAugL_ap, sPut_ap, mT_ap, mTest_ap, mF_ap, mP_ap, mMove_ap, mFrz_ap, mFz_ap, sRaiseI_ap, mOp2_ap, mOp1_ap, mOpS_ap, mIx_ap, mIxL_ap, mIte_ap, mNot_ap, mAnd_ap, mOr_ap, mAndV_ap, mOrV_ap, msNil_ap, msCons_ap, psNil_ap, psCons_ap, pVar_ap, pC_ap, pOp1_ap, pOp2_ap, pOpS_ap, pTest_ap, pNot_ap, pAnd_ap, pOr_ap, pVal_ap, pAndV_ap, pOrV_ap, pIte_ap, pChain_ap, pNo_ap, poNone_ap, poSome_ap, pSl_ap, pSeq_ap, mSeq_ap, pRng_ap, mRng_ap, pComp_ap, mComp_ap, pYes_ap, pMet_ap, mMet_ap, mMeth_ap, pIsi_ap, pGet2_ap, aNil_ap, aSlot_ap, aVal_ap, mCallIO_ap, mCall_ap, mCallP_ap, mCallPB_ap, oIsN_ap, oNotN_ap, oAdd_int, oSub_int, ipAdd_int, ipSub_int, oLt_int, oLe_int, oGt_int, oGe_int, oLt_str, oLe_str, oGt_str, oGe_str, oEq_int, oNe_int, oEq_bl, oNeg_int, oSubs_lst, oSubs_tup, oIx_lst, oIx_tup, oLen_lst, oLen_tup, oIn_str, oNotIn_str, seqOf_str, seqOf_tup, seqOf_lst, startS, RS.seq_nx, RS.seq_ret, RS.seq_brk, RS.seq_ct, RS.seq_err, RS.seq_bad, L2.DL.R.bind_ok, L2.DL.R.bind_err, L2.DL.R.bind_bad, rS_ok, rS_err, rS_bad, Option.bind_some, Option.bind_none, Option.map_some, Option.map_none, Option.join_some, gN, noOwn, noOwns, noObj, noObjs, noSh, noShs, frz, frzs, List.map_cons, List.map_nil, List.getElem?_cons_zero, List.getElem?_cons_succ, List.set_cons_zero, List.set_cons_succ, List.length_cons, List.length_nil, List.cons_append, List.nil_append, List.replicate, setS_nil, setS_cons, gsNil, gsCons, gTn, Bool.and_true, Bool.true_and, Bool.and_false, Bool.false_and, Bool.or_true, Bool.true_or, Bool.or_false, Bool.false_or, Bool.not_true, Bool.not_false, Bool.and_self, if_true, if_false, Bool.false_eq_true, reduceIte, decide_true, decide_false, callIO, callPB, gatherA, backA, List.take_succ_cons, List.take_zero, atI0, atI1, atI2, atI3, Nat.reduceAdd, Nat.reduceSub, Int.reduceLT, Int.reduceLE, Int.reduceNeg, Int.reduceAdd, Int.reduceSub, Int.reduceMul, Nat.reduceLT, Nat.reduceLeDiff, Int.reduceEq, Int.reduceBEq, R.len, ne, noOwns_I, e, isRw, h]
    cases l.all in09 <;> simp only [sSeq_ap, sNil_ap, sIf_ap, sSet_ap, sRet_ap, sRetN_ap, sDrop_ap, sAsg_ap, sFor_ap, sAug_ap, sAugL_ap, sPut_ap, mT_ap, mTest_ap, mF_ap, mP_ap, mMove_ap, mFrz_ap, mFz_ap, sRaiseI_ap, mOp2_ap, mOp1_ap, mOpS_ap, mIx_ap, mIxL_ap, mIte_ap, mNot_ap, mAnd_ap, mOr_ap, mAndV_ap, mOrV_ap, msNil_ap, msCons_ap, psNil_ap, psCons_ap, pVar_ap, pC_ap, pOp1_ap, pOp2_ap, pOpS_ap, pTest_ap, pNot_ap, pAnd_ap, pOr_ap, pVal_ap, pAndV_ap, pOrV_ap, pIte_ap, pChain_ap, pNo_ap, poNone_ap, poSome_ap, pSl_ap, pSeq_ap, mSeq_ap, pRng_ap, mRng_ap, pComp_ap, mComp_ap, pYes_ap, pMet_ap, mMet_ap, mMeth_ap, pIsi_ap, pGet2_ap, aNil_ap, aSlot_ap, aVal_ap, mCallIO_ap, mCall_ap, mCallP_ap, mCallPB_ap, oIsN_ap, oNotN_ap, oAdd_int, oSub_int, ipAdd_int, ipSub_int, oLt_int, oLe_int, oGt_int, oGe_int, oLt_str, oLe_str, oGt_str, oGe_str, oEq_int, oNe_int, oEq_bl, oNeg_int, oSubs_lst, oSubs_tup, oIx_lst, oIx_tup, oLen_lst, oLen_tup, oIn_str, oNotIn_str, seqOf_str, seqOf_tup, seqOf_lst, startS, RS.seq_nx, RS.seq_ret, RS.seq_brk, RS.seq_ct, RS.seq_err, RS.seq_bad, L2.DL.R.bind_ok, L2.DL.R.bind_err, L2.DL.R.bind_bad, rS_ok, rS_err, rS_bad, Option.bind_some, Option.bind_none, Option.map_some, Option.map_none, Option.join_some, gN, noOwn, noOwns, noObj, noObjs, noSh, noShs, frz, frzs, List.map_cons, List.map_nil, List.getElem?_cons_zero, List.getElem?_cons_succ, List.set_cons_zero, List.set_cons_succ, List.length_cons, List.length_nil, List.cons_append, List.nil_append, List.replicate, setS_nil, setS_cons, gsNil, gsCons, gTn, Bool.and_true, Bool.true_and, Bool.and_false, Bool.false_and, Bool.or_true, Bool.true_or, Bool.or_false, Bool.false_or, Bool.not_true, Bool.not_false, Bool.and_self, if_true, if_false, Bool.false_eq_true, reduceIte, decide_true, decide_false, callIO, callPB, gatherA, backA, List.take_succ_cons, List.take_zero, atI0, atI1, atI2, atI3, Nat.reduceAdd, Nat.reduceSub, Int.reduceLT, Int.reduceLE, Int.reduceNeg, Int.reduceAdd, Int.reduceSub, Int.reduceMul, Nat.reduceLT, Nat.reduceLeDiff, Int.reduceEq, Int.reduceBEq]
  · simp only [h, decide_false] at ne
    simp only [sSeq_ap, sNil_ap, sIf_ap, sSet_ap, sRet_ap, sRetN_ap, sDrop_ap, sAsg_ap, sFor_ap, sAug_ap, sAugL_ap, sPut_ap, mT_ap, mTest_ap, mF_ap, mP_ap, mMove_ap, mFrz_ap, mFz_ap, sRaiseI_ap, mOp2_ap, mOp1_ap, mOpS_ap, mIx_ap, mIxL_ap, mIte_ap, mNot_ap, mAnd_ap, mOr_ap, mAndV_ap, mOrV_ap, msNil_ap, msCons_ap, psNil_ap, psCons_ap, pVar_ap, pC_ap, pOp1_ap, pOp2_ap, pOpS_ap, pTest_ap, pNot_ap, pAnd_ap, pOr_ap, pVal_ap, pAndV_ap, pOrV_ap, pIte_ap, pChain_ap, pNo_ap, poNone_ap, poSome_ap, pSl_ap, pSeq_ap, mSeq_ap, pRng_ap, mRng_ap, pComp_ap, mComp_ap, pYes_ap, pMet_ap, mMet_ap, mMeth_ap, pIsi_ap, pGet2_ap, aNil_ap, aSlot_ap, aVal_ap, mCallIO_ap, mCall_ap, mCallP_ap, mCallPB_ap, oIsN_ap, oNotN_ap, oAdd_int, oSub_int, ipAdd_int, ipSub_int, oLt_int, oLe_int, oGt_int, oGe_int, oLt_str, oLe_str, oGt_str, oGe_str, oEq_int, oNe_int, oEq_bl, oNeg_int, oSubs_lst, oSubs_tup, oIx_lst, oIx_tup, oLen_lst, oLen_tup, oIn_str, oNotIn_str, seqOf_str, seqOf_tup, seqOf_lst, startS, RS.seq_nx, RS.seq_ret, RS.seq_brk, RS.seq_ct, RS.seq_err, RS.seq_bad, L2.DL.R.bind_ok, L2.DL.R.bind_err, L2.DL.R.bind_bad, rS_ok, rS_err, rS_bad, Option.bind_some, Option.bind_none, Option.map_some, Option.map_none, Option.join_some, gN, noOwn, noOwns, noObj, noObjs, noSh, noShs, frz, frzs, List.map_cons, List.map_nil, List.getElem?_cons_zero, List.getElem?_cons_succ, List.set_cons_zero, List.set_cons_succ, List.length_cons, List.length_nil, List.cons_append, List.nil_append, List.replicate, setS_nil, setS_cons, gsNil, gsCons, gTn, Bool.and_true, Bool.true_and, Bool.and_false, Bool.false_and, Bool.or_true, Bool.true_or, Bool.or_false, Bool.false_or, Bool.not_true, Bool.not_false, Bool.and_self, if_true, if_false, Bool.false_eq_true, reduceIte, decide_true, decide_false, callIO, callPB, gatherA, backA, List.take_succ_cons, List.take_zero, atI0, atI1, atI2, atI3, Nat.reduceAdd, Nat.reduceSub, Int.reduceLT, Int.reduceLE, Int.reduceNeg, Int.reduceAdd, Int.reduceSub, Int.reduceMul, Nat.reduceLT, Nat.reduceLeDiff, Int.reduceEq, Int.reduceBEq, R.len, ne, isRw, h]
theorem row_callV {rm : Val} {n : Nat} (R : RoomV rm n) (l : List Int) : callP m_is_row [rm, .tup (encI l)] = some (.bl (isRw n l)) := by
  simp only [callP, noObjs, R.obj, noObj, noObjs_I, frzs, R.fr, frz, frzs_I, noOwns, R.own, noOwn, noOwns_I, row_specV R, sSeq_ap, sNil_ap, sIf_ap, sSet_ap, sRet_ap, sRetN_ap, sDrop_ap, sAsg_ap, sFor_ap, sAug_ap, sAugL_ap, sPut_ap, mT_ap, mTest_ap, mF_ap, mP_ap, mMove_ap, mFrz_ap, mFz_ap, sRaiseI_ap, mOp2_ap, mOp1_ap, mOpS_ap, mIx_ap, mIxL_ap, mIte_ap, mNot_ap, mAnd_ap, mOr_ap, mAndV_ap, mOrV_ap, msNil_ap, msCons_ap, psNil_ap, psCons_ap, pVar_ap, pC_ap, pOp1_ap, pOp2_ap, pOpS_ap, pTest_ap, pNot_ap, pAnd_ap, pOr_ap, pVal_ap, pAndV_ap, pOrV_ap, pIte_ap, pChain_ap, pNo_ap, poNone_ap, poSome_ap, pSl_ap, pSeq_ap, mSeq_ap, pRng_ap, mRng_ap, pComp_ap, mComp_ap, pYes_ap, pMet_ap, mMet_ap, mMeth_ap, pIsi_ap, pGet2_ap, aNil_ap, aSlot_ap, aVal_ap, mCallIO_ap, mCall_ap, mCallP_ap, mCallPB_ap, oIsN_ap, oNotN_ap, oAdd_int, oSub_int, ipAdd_int, ipSub_int, oLt_int, oLe_int, oGt_int, oGe_int, oLt_str, oLe_str, oGt_str, oGe_str, oEq_int, oNe_int, oEq_bl, oNeg_int, oSubs_lst, oSubs_tup, oIx_lst, oIx_tup, oLen_lst, oLen_tup, oIn_str, oNotIn_str, seqOf_str, seqOf_tup, seqOf_lst, startS, RS.seq_nx, RS.seq_ret, RS.seq_brk, RS.seq_ct, RS.seq_err, RS.seq_bad, L2.DL.R.bind_ok, L2.DL.R.bind_err, L2.DL.R.bind_bad, rS_ok, rS_err, rS_bad, Option.bind_some, Option.bind_none, Option.map_some, Option.map_none, Option.join_some, gN, noOwn, noOwns, noObj, noObjs, noSh, noShs, frz, frzs, List.map_cons, List.map_nil, List.getElem?_cons_zero, List.getElem?_cons_succ, List.set_cons_zero, List.set_cons_succ, List.length_cons, List.length_nil, List.cons_append, List.nil_append, List.replicate, setS_nil, setS_cons, gsNil, gsCons, gTn, Bool.and_true, Bool.true_and, Bool.and_false, Bool.false_and, Bool.or_true, Bool.true_or, Bool.or_false, Bool.false_or, Bool.not_true, Bool.not_false, Bool.and_self, if_true, if_false, Bool.false_eq_true, reduceIte, decide_true, decide_false, callIO, callPB, gatherA, backA, List.take_succ_cons, List.take_zero, atI0, atI1, atI2, atI3, Nat.reduceAdd, Nat.reduceSub, Int.reduceLT, Int.reduceLE, Int.reduceNeg, Int.reduceAdd, Int.reduceSub, Int.reduceMul, Nat.reduceLT, Nat.reduceLeDiff, Int.reduceEq, Int.reduceBEq]
theorem intsOf_I : ∀ r : Row, intsOf (encI r) = some r
  | [] => rfl
  | x :: r => by rw [encI_cons]; simp only [intsOf, intsOf_I r, Option.map_some]
theorem oGeR_I (a b : Row) : oGeR (.tup (encI a)) (.tup (encI b)) = some (.bl (geRow a b)) := by
  simp only [oGeR, intsOf_I, Option.bind_some, Option.map_some]
def at' (l : Dic) (k : Nat) : Row × Int := l.getD k ([], 0)
def badAt (n : Nat) (l : Dic) (k : Nat) : Bool := !isRw n (at' l k).1 || (decide ((at' l k).2 < 1) || (decide (0 < k) && geRow (at' l (k - 1)).1 (at' l k).1))
theorem atT {l : Dic} {k : Nat} (h : k < l.length) : atI (encT l) (k : Int) = some (.tup [.tup (encI (at' l k).1), .int (at' l k).2]) := by
  rw [atI_T h]
  show _ = some (pairV (at' l k))
  rw [at', List.getD_eq_getElem?_getD, List.getElem?_eq_getElem h]; rfl
theorem atT1 {l : Dic} {k : Nat} (h : k < l.length) (h0 : 0 < k) : atI (encT l) ((k : Int) - 1) = some (.tup [.tup (encI (at' l (k - 1)).1), .int (at' l (k - 1)).2]) := by
  have := atT (l := l) (k := k - 1) (by omega)
  rwa [show ((k - 1 : Nat) : Int) = (k : Int) - 1 by omega] at this
theorem decP (k : Nat) : decide ((0 : Int) < (k : Int)) = decide (0 < k) := by
  by_cases h : 0 < k
  · rw [decide_eq_true h]; exact decide_eq_true (by omega)
  · rw [decide_eq_false h]; exact decide_eq_false (by omega)
theorem tally_loop {rm : Val} {n : Nat} (R : RoomV rm n) {l : Dic} : ∀ (ks : List Nat) (x y z : Option Val), (∀ k ∈ ks, k < l.length) →
    ∃ x' y' z', forL [2] gN l1_is_tally (ks.map fun k : Nat => Val.int (k : Int)) [some rm, some (.lst false (encT l)), x, y, z] = if ks.all (fun k => !badAt n l k) = true then .nx [some rm, some (.lst false (encT l)), x', y', z'] else .ret (.bl false) [some rm, some (.lst false (encT l)), x', y', z']
  | [], x, y, z, _ => ⟨x, y, z, rfl⟩
  | k :: ks, x, y, z, hk => by
    have h1 := hk k List.mem_cons_self
    have e1 := atT h1
    have e2 := row_callV R (at' l k).1
    obtain ⟨x', y', z', ih⟩ := tally_loop R ks (some (.int k)) (some (.tup (encI (at' l k).1))) (some (.int (at' l k).2)) fun k h => hk k (List.mem_cons_of_mem _ h)
    rw [List.map_cons, forL]
    by_cases q1 : isRw n (at' l k).1 = true
    · by_cases q2 : (at' l k).2 < 1
      · have q : badAt n l k = true := by simp only [badAt, q2, decide_true, Bool.true_or, Bool.or_true]
        simp only [q1] at e2
        simp only [sSeq_ap, sNil_ap, sIf_ap, sSet_ap, sRet_ap, sRetN_ap, sDrop_ap, sAsg_ap, sFor_ap, sAug_ap, sAugL_ap, sPut_ap, mT_ap, mTest_ap, mF_ap, mP_ap, mMove_ap, mFrz_ap, mFz_ap, sRaiseI_ap, mOp2_ap, mOp1_ap, mOpS_ap, mIx_ap, mIxL_ap, mIte_ap, mNot_ap, mAnd_ap, mOr_ap, mAndV_ap, mOrV_ap, msNil_ap, msCons_ap, psNil_ap, psCons_ap, pVar_ap, pC_ap, pOp1_ap, pOp2_ap, pOpS_ap, pTest_ap, pNot_ap, pAnd_ap, pOr_ap, pVal_ap, pAndV_ap, pOrV_ap, pIte_ap, pChain_ap, pNo_ap, poNone_ap, poSome_ap, pSl_ap, pSeq_ap, mSeq_ap, pRng_ap, mRng_ap, pComp_ap, mComp_ap, pYes_ap, pMet_ap, mMet_ap, mMeth_ap, pIsi_ap, pGet2_ap, aNil_ap, aSlot_ap, aVal_ap, mCallIO_ap, mCall_ap, mCallP_ap, mCallPB_ap, oIsN_ap, oNotN_ap, oAdd_int, oSub_int, ipAdd_int, ipSub_int, oLt_int, oLe_int, oGt_int, oGe_int, oLt_str, oLe_str, oGt_str, oGe_str, oEq_int, oNe_int, oEq_bl, oNeg_int, oSubs_lst, oSubs_tup, oIx_lst, oIx_tup, oLen_lst, oLen_tup, oIn_str, oNotIn_str, seqOf_str, seqOf_tup, seqOf_lst, startS, RS.seq_nx, RS.seq_ret, RS.seq_brk, RS.seq_ct, RS.seq_err, RS.seq_bad, L2.DL.R.bind_ok, L2.DL.R.bind_err, L2.DL.R.bind_bad, rS_ok, rS_err, rS_bad, Option.bind_some, Option.bind_none, Option.map_some, Option.map_none, Option.join_some, gN, noOwn, noOwns, noObj, noObjs, noSh, noShs, frz, frzs, List.map_cons, List.map_nil, List.getElem?_cons_zero, List.getElem?_cons_succ, List.set_cons_zero, List.set_cons_succ, List.length_cons, List.length_nil, List.cons_append, List.nil_append, List.replicate, setS_nil, setS_cons, gsNil, gsCons, gTn, Bool.and_true, Bool.true_and, Bool.and_false, Bool.false_and, Bool.or_true, Bool.true_or, Bool.or_false, Bool.false_or, Bool.not_true, Bool.not_false, Bool.and_self, if_true, if_false, Bool.false_eq_true, reduceIte, decide_true, decide_false, callIO, callPB, gatherA, backA, List.take_succ_cons, List.take_zero, atI0, atI1, atI2, atI3, Nat.reduceAdd, Nat.reduceSub, Int.reduceLT, Int.reduceLE, Int.reduceNeg, Int.reduceAdd, Int.reduceSub, Int.reduceMul, Nat.reduceLT, Nat.reduceLeDiff, Int.reduceEq, Int.reduceBEq, l1_is_tally, e1, noOwns_I, e2, q2, List.all_cons, q]
        exact ⟨_, _, _, rfl⟩
      · by_cases hk0 : 0 < k
        · have e3 := atT1 h1 hk0
          have e4 := oGeR_I (at' l (k - 1)).1 (at' l k).1
          have hp : (0 : Int) < k := by omega
          simp only [q1] at e2
          cases q3 : geRow (at' l (k - 1)).1 (at' l k).1 with
          | true =>
            have q : badAt n l k = true := by simp only [badAt, q3, hk0, decide_true, Bool.and_self, Bool.or_true]
            simp only [q3] at e4
            simp only [sSeq_ap, sNil_ap, sIf_ap, sSet_ap, sRet_ap, sRetN_ap, sDrop_ap, sAsg_ap, sFor_ap, sAug_ap, sAugL_ap, sPut_ap, mT_ap, mTest_ap, mF_ap, mP_ap, mMove_ap, mFrz_ap, mFz_ap, sRaiseI_ap, mOp2_ap, mOp1_ap, mOpS_ap, mIx_ap, mIxL_ap, mIte_ap, mNot_ap, mAnd_ap, mOr_ap, mAndV_ap, mOrV_ap, msNil_ap, msCons_ap, psNil_ap, psCons_ap, pVar_ap, pC_ap, pOp1_ap, pOp2_ap, pOpS_ap, pTest_ap, pNot_ap, pAnd_ap, pOr_ap, pVal_ap, pAndV_ap, pOrV_ap, pIte_ap, pChain_ap, pNo_ap, poNone_ap, poSome_ap, pSl_ap, pSeq_ap, mSeq_ap, pRng_ap, mRng_ap, pComp_ap, mComp_ap, pYes_ap, pMet_ap, mMet_ap, mMeth_ap, pIsi_ap, pGet2_ap, aNil_ap, aSlot_ap, aVal_ap, mCallIO_ap, mCall_ap, mCallP_ap, mCallPB_ap, oIsN_ap, oNotN_ap, oAdd_int, oSub_int, ipAdd_int, ipSub_int, oLt_int, oLe_int, oGt_int, oGe_int, oLt_str, oLe_str, oGt_str, oGe_str, oEq_int, oNe_int, oEq_bl, oNeg_int, oSubs_lst, oSubs_tup, oIx_lst, oIx_tup, oLen_lst, oLen_tup, oIn_str, oNotIn_str, seqOf_str, seqOf_tup, seqOf_lst, startS, RS.seq_nx, RS.seq_ret, RS.seq_brk, RS.seq_ct, RS.seq_err, RS.seq_bad, L2.DL.R.bind_ok, L2.DL.R.bind_err, L2.DL.R.bind_bad, rS_ok, rS_err, rS_bad, Option.bind_some, Option.bind_none, Option.map_some, Option.map_none, Option.join_some, gN, noOwn, noOwns, noObj, noObjs, noSh, noShs, frz, frzs, List.map_cons, List.map_nil, List.getElem?_cons_zero, List.getElem?_cons_succ, List.set_cons_zero, List.set_cons_succ, List.length_cons, List.length_nil, List.cons_append, List.nil_append, List.replicate, setS_nil, setS_cons, gsNil, gsCons, gTn, Bool.and_true, Bool.true_and, Bool.and_false, Bool.false_and, Bool.or_true, Bool.true_or, Bool.or_false, Bool.false_or, Bool.not_true, Bool.not_false, Bool.and_self, if_true, if_false, Bool.false_eq_true, reduceIte, decide_true, decide_false, callIO, callPB, gatherA, backA, List.take_succ_cons, List.take_zero, atI0, atI1, atI2, atI3, Nat.reduceAdd, Nat.reduceSub, Int.reduceLT, Int.reduceLE, Int.reduceNeg, Int.reduceAdd, Int.reduceSub, Int.reduceMul, Nat.reduceLT, Nat.reduceLeDiff, Int.reduceEq, Int.reduceBEq, l1_is_tally, e1, noOwns_I, e2, q2, hp, e3, e4, List.all_cons, q]
            exact ⟨_, _, _, rfl⟩
          | false =>
            have q : badAt n l k = false := by simp only [badAt, q1, q2, q3, decide_false, Bool.not_true, Bool.and_false, Bool.or_self]
            simp only [q3] at e4
            refine ⟨x', y', z', ?_⟩
            simp only [sSeq_ap, sNil_ap, sIf_ap, sSet_ap, sRet_ap, sRetN_ap, sDrop_ap, sAsg_ap, sFor_ap, sAug_ap, sAugL_ap, sPut_ap, mT_ap, mTest_ap, mF_ap, mP_ap, mMove_ap, mFrz_ap, mFz_ap, sRaiseI_ap, mOp2_ap, mOp1_ap, mOpS_ap, mIx_ap, mIxL_ap, mIte_ap, mNot_ap, mAnd_ap, mOr_ap, mAndV_ap, mOrV_ap, msNil_ap, msCons_ap, psNil_ap, psCons_ap, pVar_ap, pC_ap, pOp1_ap, pOp2_ap, pOpS_ap, pTest_ap, pNot_ap, pAnd_ap, pOr_ap, pVal_ap, pAndV_ap, pOrV_ap, pIte_ap, pChain_ap, pNo_ap, poNone_ap, poSome_ap, pSl_ap, pSeq_ap, mSeq_ap, pRng_ap, mRng_ap, pComp_ap, mComp_ap, pYes_ap, pMet_ap, mMet_ap, mMeth_ap, pIsi_ap, pGet2_ap, aNil_ap, aSlot_ap, aVal_ap, mCallIO_ap, mCall_ap, mCallP_ap, mCallPB_ap, oIsN_ap, oNotN_ap, oAdd_int, oSub_int, ipAdd_int, ipSub_int, oLt_int, oLe_int, oGt_int, oGe_int, oLt_str, oLe_str, oGt_str, oGe_str, oEq_int, oNe_int, oEq_bl, oNeg_int, oSubs_lst, oSubs_tup, oIx_lst, oIx_tup, oLen_lst, oLen_tup, oIn_str, oNotIn_str, seqOf_str, seqOf_tup, seqOf_lst, startS, RS.seq_nx, RS.seq_ret, RS.seq_brk, RS.seq_ct, RS.seq_err, RS.seq_bad, L2.DL.R.bind_ok, L2.DL.R.bind_err, L2.DL.R.bind_bad, rS_ok, rS_err, rS_bad, Option.bind_some, Option.bind_none, Option.map_some, Option.map_none, Option.join_some, gN, noOwn, noOwns, noObj, noObjs, noSh, noShs, frz, frzs, List.map_cons, List.map_nil, List.getElem?_cons_zero, List.getElem?_cons_succ, List.set_cons_zero, List.set_cons_succ, List.length_cons, List.length_nil, List.cons_append, List.nil_append, List.replicate, setS_nil, setS_cons, gsNil, gsCons, gTn, Bool.and_true, Bool.true_and, Bool.and_false, Bool.false_and, Bool.or_true, Bool.true_or, Bool.or_false, Bool.false_or, Bool.not_true, Bool.not_false, Bool.and_self, if_true, if_false, Bool.false_eq_true, reduceIte, decide_true, decide_false, callIO, callPB, gatherA, backA, List.take_succ_cons, List.take_zero, atI0, atI1, atI2, atI3, Nat.reduceAdd, Nat.reduceSub, Int.reduceLT, Int.reduceLE, Int.reduceNeg, Int.reduceAdd, Int.reduceSub, Int.reduceMul, Nat.reduceLT, Nat.reduceLeDiff, Int.reduceEq, Int.reduceBEq, l1_is_tally, e1, noOwns_I, e2, q2, hp, e3, e4, List.all_cons, q]
            exact ih
        · have hp : ¬ (0 : Int) < k := by omega
          have q : badAt n l k = false := by simp only [badAt, q1, q2, hk0, decide_false, Bool.not_true, Bool.false_and, Bool.or_self]
          simp only [q1] at e2
          refine ⟨x', y', z', ?_⟩
          simp only [sSeq_ap, sNil_ap, sIf_ap, sSet_ap, sRet_ap, sRetN_ap, sDrop_ap, sAsg_ap, sFor_ap, sAug_ap, sAugL_ap, sPut_ap, mT_ap, mTest_ap, mF_ap, mP_ap, mMove_ap, mFrz_ap, mFz_ap, sRaiseI_ap, mOp2_ap, mOp1_ap, mOpS_ap, mIx_ap, mIxL_ap, mIte_ap, mNot_ap, mAnd_ap, mOr_ap, mAndV_ap, mOrV_ap, msNil_ap, msCons_ap, psNil_ap, psCons_ap, pVar_ap, pC_ap, pOp1_ap, pOp2_ap, pOpS_ap, pTest_ap, pNot_ap, pAnd_ap, pOr_ap, pVal_ap, pAndV_ap, pOrV_ap, pIte_ap, pChain_ap, pNo_ap, poNone_ap, poSome_ap, pSl_ap, pSeq_ap, mSeq_ap, pRng_ap, mRng_ap, pComp_ap, mComp_ap, pYes_ap, pMet_ap, mMet_ap, mMeth_ap, pIsi_ap, pGet2_ap, aNil_ap, aSlot_ap, aVal_ap, mCallIO_ap, mCall_ap, mCallP_ap, mCallPB_ap, oIsN_ap, oNotN_ap, oAdd_int, oSub_int, ipAdd_int, ipSub_int, oLt_int, oLe_int, oGt_int, oGe_int, oLt_str, oLe_str, oGt_str, oGe_str, oEq_int, oNe_int, oEq_bl, oNeg_int, oSubs_lst, oSubs_tup, oIx_lst, oIx_tup, oLen_lst, oLen_tup, oIn_str, oNotIn_str, seqOf_str, seqOf_tup, seqOf_lst, startS, RS.seq_nx, RS.seq_ret, RS.seq_brk, RS.seq_ct, RS.seq_err, RS.seq_bad, L2.DL.R.bind_ok, L2.DL.R.bind_err, L2.DL.R.bind_bad, rS_ok, rS_err, rS_bad, Option.bind_some, Option.bind_none, Option.map_some, Option.map_none, Option.join_some, gN, noOwn, noOwns, noObj, noObjs, noSh, noShs, frz, frzs, List.map_cons, List.map_nil, List.getElem?_cons_zero, List.getElem?_cons_succ, List.set_cons_zero, List.set_cons_succ, List.length_cons, List.length_nil, List.cons_append, List.nil_append, List.replicate, setS_nil, setS_cons, gsNil, gsCons, gTn, Bool.and_true, Bool.true_and, Bool.and_false, Bool.false_and, Bool.or_true, Bool.true_or, Bool.or_false, Bool.false_or, Bool.not_true, Bool.not_false, Bool.and_self, if_true, if_false, Bool.false_eq_true, reduceIte, decide_true, decide_false, callIO, callPB, gatherA, backA, List.take_succ_cons, List.take_zero, atI0, atI1, atI2, atI3, Nat.reduceAdd, Nat.reduceSub, Int.reduceLT, Int.reduceLE, Int.reduceNeg, Int.reduceAdd, Int.reduceSub, Int.reduceMul, Nat.reduceLT, Nat.reduceLeDiff, Int.reduceEq, Int.reduceBEq, l1_is_tally, e1, noOwns_I, e2, q2, hp, List.all_cons, q]
          exact ih
    · have q1' : isRw n (at' l k).1 = false := by simpa using q1
      have q : badAt n l k = true := by simp only [badAt, q1', Bool.not_false, Bool.true_or]
      simp only [q1'] at e2
      simp only [sSeq_ap, sNil_ap, sIf_ap, sSet_ap, sRet_ap, sRetN_ap, sDrop_ap, sAsg_ap, sFor_ap, sAug_ap, sAugL_ap, sPut_ap, mT_ap, mTest_ap, mF_ap, mP_ap, mMove_ap, mFrz_ap, mFz_ap, sRaiseI_ap, mOp2_ap, mOp1_ap, mOpS_ap, mIx_ap, mIxL_ap, mIte_ap, mNot_ap, mAnd_ap, mOr_ap, mAndV_ap, mOrV_ap, msNil_ap, msCons_ap, psNil_ap, psCons_ap, pVar_ap, pC_ap, pOp1_ap, pOp2_ap, pOpS_ap, pTest_ap, pNot_ap, pAnd_ap, pOr_ap, pVal_ap, pAndV_ap, pOrV_ap, pIte_ap, pChain_ap, pNo_ap, poNone_ap, poSome_ap, pSl_ap, pSeq_ap, mSeq_ap, pRng_ap, mRng_ap, pComp_ap, mComp_ap, pYes_ap, pMet_ap, mMet_ap, mMeth_ap, pIsi_ap, pGet2_ap, aNil_ap, aSlot_ap, aVal_ap, mCallIO_ap, mCall_ap, mCallP_ap, mCallPB_ap, oIsN_ap, oNotN_ap, oAdd_int, oSub_int, ipAdd_int, ipSub_int, oLt_int, oLe_int, oGt_int, oGe_int, oLt_str, oLe_str, oGt_str, oGe_str, oEq_int, oNe_int, oEq_bl, oNeg_int, oSubs_lst, oSubs_tup, oIx_lst, oIx_tup, oLen_lst, oLen_tup, oIn_str, oNotIn_str, seqOf_str, seqOf_tup, seqOf_lst, startS, RS.seq_nx, RS.seq_ret, RS.seq_brk, RS.seq_ct, RS.seq_err, RS.seq_bad, L2.DL.R.bind_ok, L2.DL.R.bind_err, L2.DL.R.bind_bad, rS_ok, rS_err, rS_bad, Option.bind_some, Option.bind_none, Option.map_some, Option.map_none, Option.join_some, gN, noOwn, noOwns, noObj, noObjs, noSh, noShs, frz, frzs, List.map_cons, List.map_nil, List.getElem?_cons_zero, List.getElem?_cons_succ, List.set_cons_zero, List.set_cons_succ, List.length_cons, List.length_nil, List.cons_append, List.nil_append, List.replicate, setS_nil, setS_cons, gsNil, gsCons, gTn, Bool.and_true, Bool.true_and, Bool.and_false, Bool.false_and, Bool.or_true, Bool.true_or, Bool.or_false, Bool.false_or, Bool.not_true, Bool.not_false, Bool.and_self, if_true, if_false, Bool.false_eq_true, reduceIte, decide_true, decide_false, callIO, callPB, gatherA, backA, List.take_succ_cons, List.take_zero, atI0, atI1, atI2, atI3, Nat.reduceAdd, Nat.reduceSub, Int.reduceLT, Int.reduceLE, Int.reduceNeg, Int.reduceAdd, Int.reduceSub, Int.reduceMul, Nat.reduceLT, Nat.reduceLeDiff, Int.reduceEq, Int.reduceBEq, l1_is_tally, e1, noOwns_I, e2, List.all_cons, q]
      exact ⟨_, _, _, rfl⟩
def isTal (n : Nat) (l : Dic) : Bool := (List.range l.length).all fun k => !badAt n l k
theorem tally_spec {rm : Val} {n : Nat} (R : RoomV rm n) {l : Dic} (hl : l.length ≤ 16777216) : m_is_tally [rm, .lst false (encT l)] = .ok (.bl (isTal n l)) := by
  unfold m_is_tally fnP g_is_tally
  have r1 := rngOf_one (j := l.length) (by omega) (by omega)
  obtain ⟨x', y', z', e⟩ := tally_loop R (l := l) (List.range l.length) none none none fun k h => List.mem_range.mp h
  simp only [sSeq_ap, sNil_ap, sIf_ap, sSet_ap, sRet_ap, sRetN_ap, sDrop_ap, sAsg_ap, sFor_ap, sAug_ap, sAugL_ap, sPut_ap, mT_ap, mTest_ap, mF_ap, mP_ap, mMove_ap, mFrz_ap, mFz_ap, sRaiseI_ap, mOp2_ap, mOp1_ap, mOpS_ap, mIx_ap, mIxL_ap, mIte_ap, mNot_ap, mAnd_ap, mOr_ap, mAndV_ap, mOrV_ap, msNil_ap, msCons_ap, psNil_ap, psCons_ap, pVar_ap, pC_ap, pOp1_ap, pOp2_ap, pOpS_ap, pTest_ap, pNot_ap, pAnd_ap, pOr_ap, pVal_ap, pAndV_ap, pOrV_ap, pIte_ap, pChain_ap, pNo_ap, poNone_ap, poSome_ap, pSl_ap, pSeq_ap, mSeq_ap, pRng_ap, mRng_ap, pComp_ap, mComp_ap, pYes_ap, pMet_ap, mMet_ap, mMeth_ap, pIsi_ap, pGet2_ap, aNil_ap, aSlot_ap, aVal_ap, mCallIO_ap, mCall_ap, mCallP_ap, mCallPB_ap, oIsN_ap, oNotN_ap, oAdd_int, oSub_int, ipAdd_int, ipSub_int, oLt_int, oLe_int, oGt_int, oGe_int, oLt_str, oLe_str, oGt_str, oGe_str, oEq_int, oNe_int, oEq_bl, oNeg_int, oSubs_lst, oSubs_tup, oIx_lst, oIx_tup, oLen_lst, oLen_tup, oIn_str, oNotIn_str, seqOf_str, seqOf_tup, seqOf_lst, startS, RS.seq_nx, RS.seq_ret, RS.seq_brk, RS.seq_ct, RS.seq_err, RS.seq_bad, L2.DL.R.bind_ok, L2.DL.R.bind_err, L2.DL.R.bind_bad, rS_ok, rS_err, rS_bad, Option.bind_some, Option.bind_none, Option.map_some, Option.map_none, Option.join_some, gN, noOwn, noOwns, noObj, noObjs, noSh, noShs, frz, frzs, List.map_cons, List.map_nil, List.getElem?_cons_zero, List.getElem?_cons_succ, List.set_cons_zero, List.set_cons_succ, List.length_cons, List.length_nil, List.cons_append, List.nil_append, List.replicate, setS_nil, setS_cons, gsNil, gsCons, gTn, Bool.and_true, Bool.true_and, Bool.and_false, Bool.false_and, Bool.or_true, Bool.true_or, Bool.or_false, Bool.false_or, Bool.not_true, Bool.not_false, Bool.and_self, if_true, if_false, Bool.false_eq_true, reduceIte, decide_true, decide_false, callIO, callPB, gatherA, backA, List.take_succ_cons, List.take_zero, atI0, atI1, atI2, atI3, Nat.reduceAdd, Nat.reduceSub, Int.reduceLT, Int.reduceLE, Int.reduceNeg, Int.reduceAdd, Int.reduceSub, Int.reduceMul, Nat.reduceLT, Nat.reduceLeDiff, Int.reduceEq, Int.reduceBEq, encT_len, r1, rng_nat, e, isTal]
  cases (List.range l.length).all fun k => !badAt n l k <;> simp only [sSeq_ap, sNil_ap, sIf_ap, sSet_ap, sRet_ap, sRetN_ap, sDrop_ap, sAsg_ap, sFor_ap, sAug_ap, sAugL_ap, sPut_ap, mT_ap, mTest_ap, mF_ap, mP_ap, mMove_ap, mFrz_ap, mFz_ap, sRaiseI_ap, mOp2_ap, mOp1_ap, mOpS_ap, mIx_ap, mIxL_ap, mIte_ap, mNot_ap, mAnd_ap, mOr_ap, mAndV_ap, mOrV_ap, msNil_ap, msCons_ap, psNil_ap, psCons_ap, pVar_ap, pC_ap, pOp1_ap, pOp2_ap, pOpS_ap, pTest_ap, pNot_ap, pAnd_ap, pOr_ap, pVal_ap, pAndV_ap, pOrV_ap, pIte_ap, pChain_ap, pNo_ap, poNone_ap, poSome_ap, pSl_ap, pSeq_ap, mSeq_ap, pRng_ap, mRng_ap, pComp_ap, mComp_ap, pYes_ap, pMet_ap, mMet_ap, mMeth_ap, pIsi_ap, pGet2_ap, aNil_ap, aSlot_ap, aVal_ap, mCallIO_ap, mCall_ap, mCallP_ap, mCallPB_ap, oIsN_ap, oNotN_ap, oAdd_int, oSub_int, ipAdd_int, ipSub_int, oLt_int, oLe_int, oGt_int, oGe_int, oLt_str, oLe_str, oGt_str, oGe_str, oEq_int, oNe_int, oEq_bl, oNeg_int, oSubs_lst, oSubs_tup, oIx_lst, oIx_tup, oLen_lst, oLen_tup, oIn_str, oNotIn_str, seqOf_str, seqOf_tup, seqOf_lst, startS, RS.seq_nx, RS.seq_ret, RS.seq_brk, RS.seq_ct, RS.seq_err, RS.seq_bad, L2.DL.R.bind_ok, L2.DL.R.bind_err, L2.DL.R.bind_bad, rS_ok, rS_err, rS_bad, Option.bind_some, Option.bind_none, Option.map_some, Option.map_none, Option.join_some, gN, noOwn, noOwns, noObj, noObjs, noSh, noShs, frz, frzs, List.map_cons, List.map_nil, List.getElem?_cons_zero, List.getElem?_cons_succ, List.set_cons_zero, List.set_cons_succ, List.length_cons, List.length_nil, List.cons_append, List.nil_append, List.replicate, setS_nil, setS_cons, gsNil, gsCons, gTn, Bool.and_true, Bool.true_and, Bool.and_false, Bool.false_and, Bool.or_true, Bool.true_or, Bool.or_false, Bool.false_or, Bool.not_true, Bool.not_false, Bool.and_self, if_true, if_false, Bool.false_eq_true, reduceIte, decide_true, decide_false, callIO, callPB, gatherA, backA, List.take_succ_cons, List.take_zero, atI0, atI1, atI2, atI3, Nat.reduceAdd, Nat.reduceSub, Int.reduceLT, Int.reduceLE, Int.reduceNeg, Int.reduceAdd, Int.reduceSub, Int.reduceMul, Nat.reduceLT, Nat.reduceLeDiff, Int.reduceEq, Int.reduceBEq]
theorem tally_call {rm : Val} {n : Nat} (R : RoomV rm n) {o : Bool} {l : Dic} (hl : l.length ≤ 16777216) : callP m_is_tally [rm, .lst o (encT l)] = some (.bl (isTal n l)) := by
  simp only [callP, noObjs, R.obj, noObj, noObjs_T, frzs, R.fr, frz, frzs_T, tally_spec R hl, sSeq_ap, sNil_ap, sIf_ap, sSet_ap, sRet_ap, sRetN_ap, sDrop_ap, sAsg_ap, sFor_ap, sAug_ap, sAugL_ap, sPut_ap, mT_ap, mTest_ap, mF_ap, mP_ap, mMove_ap, mFrz_ap, mFz_ap, sRaiseI_ap, mOp2_ap, mOp1_ap, mOpS_ap, mIx_ap, mIxL_ap, mIte_ap, mNot_ap, mAnd_ap, mOr_ap, mAndV_ap, mOrV_ap, msNil_ap, msCons_ap, psNil_ap, psCons_ap, pVar_ap, pC_ap, pOp1_ap, pOp2_ap, pOpS_ap, pTest_ap, pNot_ap, pAnd_ap, pOr_ap, pVal_ap, pAndV_ap, pOrV_ap, pIte_ap, pChain_ap, pNo_ap, poNone_ap, poSome_ap, pSl_ap, pSeq_ap, mSeq_ap, pRng_ap, mRng_ap, pComp_ap, mComp_ap, pYes_ap, pMet_ap, mMet_ap, mMeth_ap, pIsi_ap, pGet2_ap, aNil_ap, aSlot_ap, aVal_ap, mCallIO_ap, mCall_ap, mCallP_ap, mCallPB_ap, oIsN_ap, oNotN_ap, oAdd_int, oSub_int, ipAdd_int, ipSub_int, oLt_int, oLe_int, oGt_int, oGe_int, oLt_str, oLe_str, oGt_str, oGe_str, oEq_int, oNe_int, oEq_bl, oNeg_int, oSubs_lst, oSubs_tup, oIx_lst, oIx_tup, oLen_lst, oLen_tup, oIn_str, oNotIn_str, seqOf_str, seqOf_tup, seqOf_lst, startS, RS.seq_nx, RS.seq_ret, RS.seq_brk, RS.seq_ct, RS.seq_err, RS.seq_bad, L2.DL.R.bind_ok, L2.DL.R.bind_err, L2.DL.R.bind_bad, rS_ok, rS_err, rS_bad, Option.bind_some, Option.bind_none, Option.map_some, Option.map_none, Option.join_some, gN, noOwn, noOwns, noObj, noObjs, noSh, noShs, frz, frzs, List.map_cons, List.map_nil, List.getElem?_cons_zero, List.getElem?_cons_succ, List.set_cons_zero, List.set_cons_succ, List.length_cons, List.length_nil, List.cons_append, List.nil_append, List.replicate, setS_nil, setS_cons, gsNil, gsCons, gTn, Bool.and_true, Bool.true_and, Bool.and_false, Bool.false_and, Bool.or_true, Bool.true_or, Bool.or_false, Bool.false_or, Bool.not_true, Bool.not_false, Bool.and_self, if_true, if_false, Bool.false_eq_true, reduceIte, decide_true, decide_false, callIO, callPB, gatherA, backA, List.take_succ_cons, List.take_zero, atI0, atI1, atI2, atI3, Nat.reduceAdd, Nat.reduceSub, Int.reduceLT, Int.reduceLE, Int.reduceNeg, Int.reduceAdd, Int.reduceSub, Int.reduceMul, Nat.reduceLT, Nat.reduceLeDiff, Int.reduceEq, Int.reduceBEq]
/-! ### cuts -/
def cutI (r : Row) (lo hi : Option Int) : Row := (r.drop (HT.sIx r.length 0 lo)).take (HT.sIx r.length r.length hi - HT.sIx r.length 0 lo)
theorem cutW_I (r : Row) (lo hi : Option Int) : cutW (encI r) lo hi = encI (cutI r lo hi) := by
  simp only [cutW, encI_len, cutI]
  simp only [encI, List.map_take, List.map_drop]
theorem cutW_N (ss : List (List Nat)) (lo hi : Option Int) : ∃ tt : List (List Nat), cutW (encN ss) lo hi = encN tt ∧ tt.length ≤ ss.length := by
  refine ⟨(ss.drop (HT.sIx ss.length 0 lo)).take (HT.sIx ss.length ss.length hi - HT.sIx ss.length 0 lo), ?_, ?_⟩
  · simp only [cutW, encN_len]
    simp only [encN, List.map_take, List.map_drop]
  · rw [List.length_take, List.length_drop]; omega
theorem cutI_len (r : Row) (lo hi : Option Int) : (cutI r lo hi).length ≤ r.length := by
  rw [cutI, List.length_take, List.length_drop]; omega
theorem oSl_I (r : Row) (lo hi : Option Int) : oSl (.tup (encI r)) lo hi = some (.tup (encI (cutI r lo hi))) := by
  simp only [oSl, noOwns_I, if_true, cutW_I]
theorem oAdd_tI {a b : Row} (h : a.length + b.length ≤ 16777216) : oAdd (.tup (encI a)) (.tup (encI b)) = some (.tup (encI (a ++ b))) := by
  simp only [oAdd, noOwns_I, encI_len, sizeLine_eq, encI_app, h, decide_true, Bool.and_self, if_true, and_self]
end RT

namespace RT
open L2 PyProof.Rows PySem.Spec PySem L2.DL SX
theorem encT_c (p : Row × Int) (l : Dic) : encT (p :: l) = .tup [.tup (encI p.1), .int p.2] :: encT l := rfl
theorem eq_lit {a b : Str} {c : Bool} (h1 : PyData.strOk a = true) (h2 : PyData.strOk b = true) (h : (a == b) = c) : oEq (.str a) (.str b) = some (.bl c) := by rw [oEq_str h1 h2, h]
theorem ne_lit {a b : Str} {c : Bool} (h1 : PyData.strOk a = true) (h2 : PyData.strOk b = true) (h : (!(a == b)) = c) : oNe (.str a) (.str b) = some (.bl c) := by rw [oNe_str h1 h2, h]
/-! ### the form of a tally -/
theorem oNe_pairT (r : Row) (c : Int) : oNe (.tup [.tup (encI r), .int c]) (.tup [.tup (encI r), .int c]) = some (.bl false) := by
  have := oNe_pair (r, c) (r, c)
  simp only [decide_true, Bool.not_true] at this
  exact this
def small (l : Dic) : Prop := ∀ p ∈ l, p.1.length ≤ 16777216
theorem at_mem {l : Dic} {k : Nat} (h : k < l.length) : at' l k ∈ l := by
  rw [at', List.getD_eq_getElem?_getD, List.getElem?_eq_getElem h]; exact List.getElem_mem _
theorem same_loop {l : Dic} (hs : small l) : ∀ (ks : List Nat) (x : Option Val), (∀ k ∈ ks, k < l.length) →
    ∃ x', forL [2] gN l1_law_same (ks.map fun k : Nat => Val.int (k : Int)) [some (.lst false (encT l)), some (.lst false (encT l)), x] = .nx [some (.lst false (encT l)), some (.lst false (encT l)), x']
  | [], x, _ => ⟨x, rfl⟩
  | k :: ks, x, hk => by
    have h1 := hk k List.mem_cons_self
    have e1 := atT h1
    have e2 := tuple_call (hs _ (at_mem h1))
    have e3 := whole_call (at' l k).2
    have e4 := oNe_pairT (at' l k).1 (at' l k).2
    have k1 : kitB "tuple" "tuple" = some true := rfl
    have c2 : (((2 : Nat) : Int) == 2) = true := rfl
    obtain ⟨x', ih⟩ := same_loop hs ks (some (.int k)) fun k h => hk k (List.mem_cons_of_mem _ h)
    refine ⟨x', ?_⟩
    rw [List.map_cons, forL]
    simp only [sSeq_ap, sNil_ap, sIf_ap, sSet_ap, sRet_ap, sRetN_ap, sDrop_ap, sAsg_ap, sFor_ap, sAug_ap, sAugL_ap, sPut_ap, mT_ap, mTest_ap, mF_ap, mP_ap, mMove_ap, mFrz_ap, mFz_ap, sRaiseI_ap, mOp2_ap, mOp1_ap, mOpS_ap, mIx_ap, mIxL_ap, mIte_ap, mNot_ap, mAnd_ap, mOr_ap, mAndV_ap, mOrV_ap, msNil_ap, msCons_ap, psNil_ap, psCons_ap, pVar_ap, pC_ap, pOp1_ap, pOp2_ap, pOpS_ap, pTest_ap, pNot_ap, pAnd_ap, pOr_ap, pVal_ap, pAndV_ap, pOrV_ap, pIte_ap, pChain_ap, pNo_ap, poNone_ap, poSome_ap, pSl_ap, pSeq_ap, mSeq_ap, pRng_ap, mRng_ap, pComp_ap, mComp_ap, pYes_ap, pMet_ap, mMet_ap, mMeth_ap, pIsi_ap, pGet2_ap, aNil_ap, aSlot_ap, aVal_ap, mCallIO_ap, mCall_ap, mCallP_ap, mCallPB_ap, oIsN_ap, oNotN_ap, oAdd_int, oSub_int, ipAdd_int, ipSub_int, oLt_int, oLe_int, oGt_int, oGe_int, oLt_str, oLe_str, oGt_str, oGe_str, oEq_int, oNe_int, oEq_bl, oNeg_int, oSubs_lst, oSubs_tup, oIx_lst, oIx_tup, oLen_lst, oLen_tup, oIn_str, oNotIn_str, seqOf_str, seqOf_tup, seqOf_lst, startS, RS.seq_nx, RS.seq_ret, RS.seq_brk, RS.seq_ct, RS.seq_err, RS.seq_bad, L2.DL.R.bind_ok, L2.DL.R.bind_err, L2.DL.R.bind_bad, rS_ok, rS_err, rS_bad, Option.bind_some, Option.bind_none, Option.map_some, Option.map_none, Option.join_some, gN, noOwn, noOwns, noObj, noObjs, noSh, noShs, frz, frzs, List.map_cons, List.map_nil, List.getElem?_cons_zero, List.getElem?_cons_succ, List.set_cons_zero, List.set_cons_succ, List.length_cons, List.length_nil, List.cons_append, List.nil_append, List.replicate, setS_nil, setS_cons, gsNil, gsCons, gTn, Bool.and_true, Bool.true_and, Bool.and_false, Bool.false_and, Bool.or_true, Bool.true_or, Bool.or_false, Bool.false_or, Bool.not_true, Bool.not_false, Bool.and_self, if_true, if_false, Bool.false_eq_true, reduceIte, decide_true, decide_false, callIO, callPB, gatherA, backA, List.take_succ_cons, List.take_zero, atI0, atI1, atI2, atI3, Nat.reduceAdd, Nat.reduceSub, Int.reduceLT, Int.reduceLE, Int.reduceNeg, Int.reduceAdd, Int.reduceSub, Int.reduceMul, Nat.reduceLT, Nat.reduceLeDiff, Int.reduceEq, Int.reduceBEq, l1_law_same, e1, tyName, k1, c2, e2, e3, e4]
    exact ih
theorem same_true {l : Dic} (hs : small l) (hl : l.length ≤ 16777216) : m_law_same [.lst false (encT l), .lst false (encT l)] = .ok (.bl true) := by
  unfold m_law_same fnP g_law_same
  have r1 := rngOf_one (j := l.length) (by omega) (by omega)
  have k1 : kitB "list" "list" = some true := rfl
  have ne : oNe (.int (encT l).length) (.int (encT l).length) = some (.bl false) := by
    rw [oNe_int, beq_self_eq_true]; rfl
  obtain ⟨x', e⟩ := same_loop hs (List.range l.length) none fun k h => List.mem_range.mp h
  rw [encT_len] at ne
  simp only [sSeq_ap, sNil_ap, sIf_ap, sSet_ap, sRet_ap, sRetN_ap, sDrop_ap, sAsg_ap, sFor_ap, sAug_ap, sAugL_ap, sPut_ap, mT_ap, mTest_ap, mF_ap, mP_ap, mMove_ap, mFrz_ap, mFz_ap, sRaiseI_ap, mOp2_ap, mOp1_ap, mOpS_ap, mIx_ap, mIxL_ap, mIte_ap, mNot_ap, mAnd_ap, mOr_ap, mAndV_ap, mOrV_ap, msNil_ap, msCons_ap, psNil_ap, psCons_ap, pVar_ap, pC_ap, pOp1_ap, pOp2_ap, pOpS_ap, pTest_ap, pNot_ap, pAnd_ap, pOr_ap, pVal_ap, pAndV_ap, pOrV_ap, pIte_ap, pChain_ap, pNo_ap, poNone_ap, poSome_ap, pSl_ap, pSeq_ap, mSeq_ap, pRng_ap, mRng_ap, pComp_ap, mComp_ap, pYes_ap, pMet_ap, mMet_ap, mMeth_ap, pIsi_ap, pGet2_ap, aNil_ap, aSlot_ap, aVal_ap, mCallIO_ap, mCall_ap, mCallP_ap, mCallPB_ap, oIsN_ap, oNotN_ap, oAdd_int, oSub_int, ipAdd_int, ipSub_int, oLt_int, oLe_int, oGt_int, oGe_int, oLt_str, oLe_str, oGt_str, oGe_str, oEq_int, oNe_int, oEq_bl, oNeg_int, oSubs_lst, oSubs_tup, oIx_lst, oIx_tup, oLen_lst, oLen_tup, oIn_str, oNotIn_str, seqOf_str, seqOf_tup, seqOf_lst, startS, RS.seq_nx, RS.seq_ret, RS.seq_brk, RS.seq_ct, RS.seq_err, RS.seq_bad, L2.DL.R.bind_ok, L2.DL.R.bind_err, L2.DL.R.bind_bad, rS_ok, rS_err, rS_bad, Option.bind_some, Option.bind_none, Option.map_some, Option.map_none, Option.join_some, gN, noOwn, noOwns, noObj, noObjs, noSh, noShs, frz, frzs, List.map_cons, List.map_nil, List.getElem?_cons_zero, List.getElem?_cons_succ, List.set_cons_zero, List.set_cons_succ, List.length_cons, List.length_nil, List.cons_append, List.nil_append, List.replicate, setS_nil, setS_cons, gsNil, gsCons, gTn, Bool.and_true, Bool.true_and, Bool.and_false, Bool.false_and, Bool.or_true, Bool.true_or, Bool.or_false, Bool.false_or, Bool.not_true, Bool.not_false, Bool.and_self, if_true, if_false, Bool.false_eq_true, reduceIte, decide_true, decide_false, callIO, callPB, gatherA, backA, List.take_succ_cons, List.take_zero, atI0, atI1, atI2, atI3, Nat.reduceAdd, Nat.reduceSub, Int.reduceLT, Int.reduceLE, Int.reduceNeg, Int.reduceAdd, Int.reduceSub, Int.reduceMul, Nat.reduceLT, Nat.reduceLeDiff, Int.reduceEq, Int.reduceBEq, tyName, k1, encT_len, ne, r1, rng_nat, e]
theorem same_call {o p : Bool} {l : Dic} (hs : small l) (hl : l.length ≤ 16777216) : callP m_law_same [.lst o (encT l), .lst p (encT l)] = some (.bl true) := by
  simp only [callP, noObjs, noObj, noObjs_T, frzs, frz, frzs_T, same_true hs hl, sSeq_ap, sNil_ap, sIf_ap, sSet_ap, sRet_ap, sRetN_ap, sDrop_ap, sAsg_ap, sFor_ap, sAug_ap, sAugL_ap, sPut_ap, mT_ap, mTest_ap, mF_ap, mP_ap, mMove_ap, mFrz_ap, mFz_ap, sRaiseI_ap, mOp2_ap, mOp1_ap, mOpS_ap, mIx_ap, mIxL_ap, mIte_ap, mNot_ap, mAnd_ap, mOr_ap, mAndV_ap, mOrV_ap, msNil_ap, msCons_ap, psNil_ap, psCons_ap, pVar_ap, pC_ap, pOp1_ap, pOp2_ap, pOpS_ap, pTest_ap, pNot_ap, pAnd_ap, pOr_ap, pVal_ap, pAndV_ap, pOrV_ap, pIte_ap, pChain_ap, pNo_ap, poNone_ap, poSome_ap, pSl_ap, pSeq_ap, mSeq_ap, pRng_ap, mRng_ap, pComp_ap, mComp_ap, pYes_ap, pMet_ap, mMet_ap, mMeth_ap, pIsi_ap, pGet2_ap, aNil_ap, aSlot_ap, aVal_ap, mCallIO_ap, mCall_ap, mCallP_ap, mCallPB_ap, oIsN_ap, oNotN_ap, oAdd_int, oSub_int, ipAdd_int, ipSub_int, oLt_int, oLe_int, oGt_int, oGe_int, oLt_str, oLe_str, oGt_str, oGe_str, oEq_int, oNe_int, oEq_bl, oNeg_int, oSubs_lst, oSubs_tup, oIx_lst, oIx_tup, oLen_lst, oLen_tup, oIn_str, oNotIn_str, seqOf_str, seqOf_tup, seqOf_lst, startS, RS.seq_nx, RS.seq_ret, RS.seq_brk, RS.seq_ct, RS.seq_err, RS.seq_bad, L2.DL.R.bind_ok, L2.DL.R.bind_err, L2.DL.R.bind_bad, rS_ok, rS_err, rS_bad, Option.bind_some, Option.bind_none, Option.map_some, Option.map_none, Option.join_some, gN, noOwn, noOwns, noObj, noObjs, noSh, noShs, frz, frzs, List.map_cons, List.map_nil, List.getElem?_cons_zero, List.getElem?_cons_succ, List.set_cons_zero, List.set_cons_succ, List.length_cons, List.length_nil, List.cons_append, List.nil_append, List.replicate, setS_nil, setS_cons, gsNil, gsCons, gTn, Bool.and_true, Bool.true_and, Bool.and_false, Bool.false_and, Bool.or_true, Bool.true_or, Bool.or_false, Bool.false_or, Bool.not_true, Bool.not_false, Bool.and_self, if_true, if_false, Bool.false_eq_true, reduceIte, decide_true, decide_false, callIO, callPB, gatherA, backA, List.take_succ_cons, List.take_zero, atI0, atI1, atI2, atI3, Nat.reduceAdd, Nat.reduceSub, Int.reduceLT, Int.reduceLE, Int.reduceNeg, Int.reduceAdd, Int.reduceSub, Int.reduceMul, Nat.reduceLT, Nat.reduceLeDiff, Int.reduceEq, Int.reduceBEq]
/-! ### counts added up -/
def accD (f : Row → Row) : Dic → Dic → Dic
  | [], D => D
  | p :: ps, D => accD f ps (put D (f p.1) (get0 D (f p.1) + p.2))
theorem accD_len (f : Row → Row) : ∀ (ps D : Dic), (accD f ps D).length ≤ D.length + ps.length
  | [], D => Nat.le_refl _
  | p :: ps, D => by
    have h1 := accD_len f ps (put D (f p.1) (get0 D (f p.1) + p.2))
    have h2 := put_len D (f p.1) (get0 D (f p.1) + p.2)
    rw [accD, List.length_cons]; omega
theorem accD_nodup (f : Row → Row) : ∀ (ps D : Dic), (D.map Prod.fst).Nodup → ((accD f ps D).map Prod.fst).Nodup
  | [], D, h => h
  | p :: ps, D, h => by
    rw [accD]
    exact accD_nodup f ps _ (put_nodup _ _ h)
theorem accD_all {f : Row → Row} {P : Row → Prop} : ∀ (ps D : Dic), (∀ p ∈ D, P p.1) → (∀ p ∈ ps, P (f p.1)) → ∀ p ∈ accD f ps D, P p.1
  | [], D, h, _ => h
  | p :: ps, D, h, h2 => by
    rw [accD]
    refine accD_all ps _ (fun q hq => ?_) fun q hq => h2 q (List.mem_cons_of_mem _ hq)
    rcases put_mem hq with hq | rfl
    · exact h q hq
    · exact h2 p List.mem_cons_self
/-! ### made -/
def badOf (n : Nat) : Dic → Option Bool
  | [] => none
  | p :: ps => if isRw n p.1 = true then (if p.2 < 0 then some false else badOf n ps) else some true
theorem made_loop {rm : Val} {n : Nat} (R : RoomV rm n) {b : Option Val} : ∀ (ps D : Dic) (x y : Option Val), D.length + ps.length ≤ 16777216 →
    (badOf n ps = none → ∃ x' y', forL [3, 4] (gTn 2 (gsCons gN (gsCons gN gsNil))) l1_made (encT ps) [some rm, b, some (dV true D), x, y] = .nx [some rm, b, some (dV true (accD id ps D)), x', y']) ∧
    ∀ c, badOf n ps = some c → ∃ ρ', forL [3, 4] (gTn 2 (gsCons gN (gsCons gN gsNil))) l1_made (encT ps) [some rm, b, some (dV true D), x, y] = .err (if c = true then "BadRow" else "BadCount") none ρ'
  | [], D, x, y, _ => ⟨fun _ => ⟨x, y, rfl⟩, fun c h => by cases h⟩
  | p :: ps, D, x, y, hl => by
    simp only [List.length_cons] at hl
    have e2 := row_callV R p.1
    have pl := put_len D p.1 (get0 D p.1 + p.2)
    obtain ⟨i1, i2⟩ := made_loop R (b := b) ps (put D p.1 (get0 D p.1 + p.2)) (some (.tup (encI p.1))) (some (.int p.2)) (by omega)
    have pw := putW_D (D := D) (r := p.1) (c := get0 D p.1 + p.2) (by omega)
    rw [encT_c, forL]
    by_cases q1 : isRw n p.1 = true
    · simp only [q1] at e2
      by_cases q2 : p.2 < 0
      · simp only [badOf, q1, if_true, q2]
        refine ⟨fun h => by simp at h, fun c h => ?_⟩
        cases h
        simp only [sSeq_ap, sNil_ap, sIf_ap, sSet_ap, sRet_ap, sRetN_ap, sDrop_ap, sAsg_ap, sFor_ap, sAug_ap, sAugL_ap, sPut_ap, mT_ap, mTest_ap, mF_ap, mP_ap, mMove_ap, mFrz_ap, mFz_ap, sRaiseI_ap, mOp2_ap, mOp1_ap, mOpS_ap, mIx_ap, mIxL_ap, mIte_ap, mNot_ap, mAnd_ap, mOr_ap, mAndV_ap, mOrV_ap, msNil_ap, msCons_ap, psNil_ap, psCons_ap, pVar_ap, pC_ap, pOp1_ap, pOp2_ap, pOpS_ap, pTest_ap, pNot_ap, pAnd_ap, pOr_ap, pVal_ap, pAndV_ap, pOrV_ap, pIte_ap, pChain_ap, pNo_ap, poNone_ap, poSome_ap, pSl_ap, pSeq_ap, mSeq_ap, pRng_ap, mRng_ap, pComp_ap, mComp_ap, pYes_ap, pMet_ap, mMet_ap, mMeth_ap, pIsi_ap, pGet2_ap, aNil_ap, aSlot_ap, aVal_ap, mCallIO_ap, mCall_ap, mCallP_ap, mCallPB_ap, oIsN_ap, oNotN_ap, oAdd_int, oSub_int, ipAdd_int, ipSub_int, oLt_int, oLe_int, oGt_int, oGe_int, oLt_str, oLe_str, oGt_str, oGe_str, oEq_int, oNe_int, oEq_bl, oNeg_int, oSubs_lst, oSubs_tup, oIx_lst, oIx_tup, oLen_lst, oLen_tup, oIn_str, oNotIn_str, seqOf_str, seqOf_tup, seqOf_lst, startS, RS.seq_nx, RS.seq_ret, RS.seq_brk, RS.seq_ct, RS.seq_err, RS.seq_bad, L2.DL.R.bind_ok, L2.DL.R.bind_err, L2.DL.R.bind_bad, rS_ok, rS_err, rS_bad, Option.bind_some, Option.bind_none, Option.map_some, Option.map_none, Option.join_some, gN, noOwn, noOwns, noObj, noObjs, noSh, noShs, frz, frzs, List.map_cons, List.map_nil, List.getElem?_cons_zero, List.getElem?_cons_succ, List.set_cons_zero, List.set_cons_succ, List.length_cons, List.length_nil, List.cons_append, List.nil_append, List.replicate, setS_nil, setS_cons, gsNil, gsCons, gTn, Bool.and_true, Bool.true_and, Bool.and_false, Bool.false_and, Bool.or_true, Bool.true_or, Bool.or_false, Bool.false_or, Bool.not_true, Bool.not_false, Bool.and_self, if_true, if_false, Bool.false_eq_true, reduceIte, decide_true, decide_false, callIO, callPB, gatherA, backA, List.take_succ_cons, List.take_zero, atI0, atI1, atI2, atI3, Nat.reduceAdd, Nat.reduceSub, Int.reduceLT, Int.reduceLE, Int.reduceNeg, Int.reduceAdd, Int.reduceSub, Int.reduceMul, Nat.reduceLT, Nat.reduceLeDiff, Int.reduceEq, Int.reduceBEq, l1_made, e2, q2, noOwns_I]
        exact ⟨_, rfl⟩
      · simp only [badOf, q1, if_true, q2, if_false]
        have st : (forL [3, 4] (gTn 2 (gsCons gN (gsCons gN gsNil))) l1_made (encT ps) [some rm, b, some (dV true (put D p.1 (get0 D p.1 + p.2))), some (.tup (encI p.1)), some (.int p.2)]) = (forL [3, 4] (gTn 2 (gsCons gN (gsCons gN gsNil))) l1_made (.tup [.tup (encI p.1), .int p.2] :: encT ps) [some rm, b, some (dV true D), x, y]) := by
          rw [forL]
          simp only [sSeq_ap, sNil_ap, sIf_ap, sSet_ap, sRet_ap, sRetN_ap, sDrop_ap, sAsg_ap, sFor_ap, sAug_ap, sAugL_ap, sPut_ap, mT_ap, mTest_ap, mF_ap, mP_ap, mMove_ap, mFrz_ap, mFz_ap, sRaiseI_ap, mOp2_ap, mOp1_ap, mOpS_ap, mIx_ap, mIxL_ap, mIte_ap, mNot_ap, mAnd_ap, mOr_ap, mAndV_ap, mOrV_ap, msNil_ap, msCons_ap, psNil_ap, psCons_ap, pVar_ap, pC_ap, pOp1_ap, pOp2_ap, pOpS_ap, pTest_ap, pNot_ap, pAnd_ap, pOr_ap, pVal_ap, pAndV_ap, pOrV_ap, pIte_ap, pChain_ap, pNo_ap, poNone_ap, poSome_ap, pSl_ap, pSeq_ap, mSeq_ap, pRng_ap, mRng_ap, pComp_ap, mComp_ap, pYes_ap, pMet_ap, mMet_ap, mMeth_ap, pIsi_ap, pGet2_ap, aNil_ap, aSlot_ap, aVal_ap, mCallIO_ap, mCall_ap, mCallP_ap, mCallPB_ap, oIsN_ap, oNotN_ap, oAdd_int, oSub_int, ipAdd_int, ipSub_int, oLt_int, oLe_int, oGt_int, oGe_int, oLt_str, oLe_str, oGt_str, oGe_str, oEq_int, oNe_int, oEq_bl, oNeg_int, oSubs_lst, oSubs_tup, oIx_lst, oIx_tup, oLen_lst, oLen_tup, oIn_str, oNotIn_str, seqOf_str, seqOf_tup, seqOf_lst, startS, RS.seq_nx, RS.seq_ret, RS.seq_brk, RS.seq_ct, RS.seq_err, RS.seq_bad, L2.DL.R.bind_ok, L2.DL.R.bind_err, L2.DL.R.bind_bad, rS_ok, rS_err, rS_bad, Option.bind_some, Option.bind_none, Option.map_some, Option.map_none, Option.join_some, gN, noOwn, noOwns, noObj, noObjs, noSh, noShs, frz, frzs, List.map_cons, List.map_nil, List.getElem?_cons_zero, List.getElem?_cons_succ, List.set_cons_zero, List.set_cons_succ, List.length_cons, List.length_nil, List.cons_append, List.nil_append, List.replicate, setS_nil, setS_cons, gsNil, gsCons, gTn, Bool.and_true, Bool.true_and, Bool.and_false, Bool.false_and, Bool.or_true, Bool.true_or, Bool.or_false, Bool.false_or, Bool.not_true, Bool.not_false, Bool.and_self, if_true, if_false, Bool.false_eq_true, reduceIte, decide_true, decide_false, callIO, callPB, gatherA, backA, List.take_succ_cons, List.take_zero, atI0, atI1, atI2, atI3, Nat.reduceAdd, Nat.reduceSub, Int.reduceLT, Int.reduceLE, Int.reduceNeg, Int.reduceAdd, Int.reduceSub, Int.reduceMul, Nat.reduceLT, Nat.reduceLeDiff, Int.reduceEq, Int.reduceBEq, l1_made, e2, q2, noOwns_I, gGet_D, pw]
        rw [forL] at st
        rw [← st]
        exact ⟨i1, i2⟩
    · have q1' : isRw n p.1 = false := by simpa using q1
      simp only [q1'] at e2
      simp only [badOf, q1', Bool.false_eq_true, if_false]
      refine ⟨fun h => by simp at h, fun c h => ?_⟩
      cases h
      simp only [sSeq_ap, sNil_ap, sIf_ap, sSet_ap, sRet_ap, sRetN_ap, sDrop_ap, sAsg_ap, sFor_ap, sAug_ap, sAugL_ap, sPut_ap, mT_ap, mTest_ap, mF_ap, mP_ap, mMove_ap, mFrz_ap, mFz_ap, sRaiseI_ap, mOp2_ap, mOp1_ap, mOpS_ap, mIx_ap, mIxL_ap, mIte_ap, mNot_ap, mAnd_ap, mOr_ap, mAndV_ap, mOrV_ap, msNil_ap, msCons_ap, psNil_ap, psCons_ap, pVar_ap, pC_ap, pOp1_ap, pOp2_ap, pOpS_ap, pTest_ap, pNot_ap, pAnd_ap, pOr_ap, pVal_ap, pAndV_ap, pOrV_ap, pIte_ap, pChain_ap, pNo_ap, poNone_ap, poSome_ap, pSl_ap, pSeq_ap, mSeq_ap, pRng_ap, mRng_ap, pComp_ap, mComp_ap, pYes_ap, pMet_ap, mMet_ap, mMeth_ap, pIsi_ap, pGet2_ap, aNil_ap, aSlot_ap, aVal_ap, mCallIO_ap, mCall_ap, mCallP_ap, mCallPB_ap, oIsN_ap, oNotN_ap, oAdd_int, oSub_int, ipAdd_int, ipSub_int, oLt_int, oLe_int, oGt_int, oGe_int, oLt_str, oLe_str, oGt_str, oGe_str, oEq_int, oNe_int, oEq_bl, oNeg_int, oSubs_lst, oSubs_tup, oIx_lst, oIx_tup, oLen_lst, oLen_tup, oIn_str, oNotIn_str, seqOf_str, seqOf_tup, seqOf_lst, startS, RS.seq_nx, RS.seq_ret, RS.seq_brk, RS.seq_ct, RS.seq_err, RS.seq_bad, L2.DL.R.bind_ok, L2.DL.R.bind_err, L2.DL.R.bind_bad, rS_ok, rS_err, rS_bad, Option.bind_some, Option.bind_none, Option.map_some, Option.map_none, Option.join_some, gN, noOwn, noOwns, noObj, noObjs, noSh, noShs, frz, frzs, List.map_cons, List.map_nil, List.getElem?_cons_zero, List.getElem?_cons_succ, List.set_cons_zero, List.set_cons_succ, List.length_cons, List.length_nil, List.cons_append, List.nil_append, List.replicate, setS_nil, setS_cons, gsNil, gsCons, gTn, Bool.and_true, Bool.true_and, Bool.and_false, Bool.false_and, Bool.or_true, Bool.true_or, Bool.or_false, Bool.false_or, Bool.not_true, Bool.not_false, Bool.and_self, if_true, if_false, Bool.false_eq_true, reduceIte, decide_true, decide_false, callIO, callPB, gatherA, backA, List.take_succ_cons, List.take_zero, atI0, atI1, atI2, atI3, Nat.reduceAdd, Nat.reduceSub, Int.reduceLT, Int.reduceLE, Int.reduceNeg, Int.reduceAdd, Int.reduceSub, Int.reduceMul, Nat.reduceLT, Nat.reduceLeDiff, Int.reduceEq, Int.reduceBEq, l1_made, e2, noOwns_I]
      exact ⟨_, rfl⟩
theorem badOf_rows {n : Nat} : ∀ {ps : Dic}, badOf n ps = none → ∀ p ∈ ps, p.1.length = n
  | [], _, _, h => by cases h
  | p :: ps, h, q, hq => by
    rw [badOf] at h
    by_cases q1 : isRw n p.1 = true
    · rw [if_pos q1] at h
      by_cases q2 : p.2 < 0
      · rw [if_pos q2] at h; cases h
      · rw [if_neg q2] at h
        rcases List.mem_cons.mp hq with rfl | hq
        · simp only [isRw, Bool.and_eq_true, decide_eq_true_eq] at q1
          exact q1.1
        · exact badOf_rows h q hq
    · rw [if_neg q1] at h; cases h
theorem acc_okKeys {f : Row → Row} {n : Nat} {ps : Dic} (h : ∀ p ∈ ps, (f p.1).length = n) : okKeys (accD f ps []) :=
  okKeys_of (accD_nodup f ps [] List.nodup_nil) fun p hp => accD_all (P := fun r => r.length = n) ps [] (fun _ h => by cases h) h p hp
theorem made_spec {rm : Val} {n : Nat} (R : RoomV rm n) {ps : Dic} (hl : ps.length ≤ 16777216) : m_made [rm, .lst false (encT ps)] = (match badOf n ps with
    | none => .ok (.lst true (encT (settle (accD id ps []))))
    | some c => .err (if c = true then "BadRow" else "BadCount") none) := by
  unfold m_made fnP g_made
  obtain ⟨i1, i2⟩ := made_loop R (b := some (.lst false (encT ps))) ps [] none none (by simp only [List.length_nil]; omega)
  have d0 : pDNewT = fun _ => some (dV true []) := rfl
  have al := accD_len id ps []
  cases q : badOf n ps with
  | none =>
    obtain ⟨x', y', e⟩ := i1 q
    have sc := settled_call (o := true) (acc_okKeys (f := id) (badOf_rows q)) (by simp only [List.length_nil] at al; omega)
    simp only [sSeq_ap, sNil_ap, sIf_ap, sSet_ap, sRet_ap, sRetN_ap, sDrop_ap, sAsg_ap, sFor_ap, sAug_ap, sAugL_ap, sPut_ap, mT_ap, mTest_ap, mF_ap, mP_ap, mMove_ap, mFrz_ap, mFz_ap, sRaiseI_ap, mOp2_ap, mOp1_ap, mOpS_ap, mIx_ap, mIxL_ap, mIte_ap, mNot_ap, mAnd_ap, mOr_ap, mAndV_ap, mOrV_ap, msNil_ap, msCons_ap, psNil_ap, psCons_ap, pVar_ap, pC_ap, pOp1_ap, pOp2_ap, pOpS_ap, pTest_ap, pNot_ap, pAnd_ap, pOr_ap, pVal_ap, pAndV_ap, pOrV_ap, pIte_ap, pChain_ap, pNo_ap, poNone_ap, poSome_ap, pSl_ap, pSeq_ap, mSeq_ap, pRng_ap, mRng_ap, pComp_ap, mComp_ap, pYes_ap, pMet_ap, mMet_ap, mMeth_ap, pIsi_ap, pGet2_ap, aNil_ap, aSlot_ap, aVal_ap, mCallIO_ap, mCall_ap, mCallP_ap, mCallPB_ap, oIsN_ap, oNotN_ap, oAdd_int, oSub_int, ipAdd_int, ipSub_int, oLt_int, oLe_int, oGt_int, oGe_int, oLt_str, oLe_str, oGt_str, oGe_str, oEq_int, oNe_int, oEq_bl, oNeg_int, oSubs_lst, oSubs_tup, oIx_lst, oIx_tup, oLen_lst, oLen_tup, oIn_str, oNotIn_str, seqOf_str, seqOf_tup, seqOf_lst, startS, RS.seq_nx, RS.seq_ret, RS.seq_brk, RS.seq_ct, RS.seq_err, RS.seq_bad, L2.DL.R.bind_ok, L2.DL.R.bind_err, L2.DL.R.bind_bad, rS_ok, rS_err, rS_bad, Option.bind_some, Option.bind_none, Option.map_some, Option.map_none, Option.join_some, gN, noOwn, noOwns, noObj, noObjs, noSh, noShs, frz, frzs, List.map_cons, List.map_nil, List.getElem?_cons_zero, List.getElem?_cons_succ, List.set_cons_zero, List.set_cons_succ, List.length_cons, List.length_nil, List.cons_append, List.nil_append, List.replicate, setS_nil, setS_cons, gsNil, gsCons, gTn, Bool.and_true, Bool.true_and, Bool.and_false, Bool.false_and, Bool.or_true, Bool.true_or, Bool.or_false, Bool.false_or, Bool.not_true, Bool.not_false, Bool.and_self, if_true, if_false, Bool.false_eq_true, reduceIte, decide_true, decide_false, callIO, callPB, gatherA, backA, List.take_succ_cons, List.take_zero, atI0, atI1, atI2, atI3, Nat.reduceAdd, Nat.reduceSub, Int.reduceLT, Int.reduceLE, Int.reduceNeg, Int.reduceAdd, Int.reduceSub, Int.reduceMul, Nat.reduceLT, Nat.reduceLeDiff, Int.reduceEq, Int.reduceBEq, d0, noOwns_T, e, sc]
  | some c =>
    obtain ⟨ρ', e⟩ := i2 c q
    simp only [sSeq_ap, sNil_ap, sIf_ap, sSet_ap, sRet_ap, sRetN_ap, sDrop_ap, sAsg_ap, sFor_ap, sAug_ap, sAugL_ap, sPut_ap, mT_ap, mTest_ap, mF_ap, mP_ap, mMove_ap, mFrz_ap, mFz_ap, sRaiseI_ap, mOp2_ap, mOp1_ap, mOpS_ap, mIx_ap, mIxL_ap, mIte_ap, mNot_ap, mAnd_ap, mOr_ap, mAndV_ap, mOrV_ap, msNil_ap, msCons_ap, psNil_ap, psCons_ap, pVar_ap, pC_ap, pOp1_ap, pOp2_ap, pOpS_ap, pTest_ap, pNot_ap, pAnd_ap, pOr_ap, pVal_ap, pAndV_ap, pOrV_ap, pIte_ap, pChain_ap, pNo_ap, poNone_ap, poSome_ap, pSl_ap, pSeq_ap, mSeq_ap, pRng_ap, mRng_ap, pComp_ap, mComp_ap, pYes_ap, pMet_ap, mMet_ap, mMeth_ap, pIsi_ap, pGet2_ap, aNil_ap, aSlot_ap, aVal_ap, mCallIO_ap, mCall_ap, mCallP_ap, mCallPB_ap, oIsN_ap, oNotN_ap, oAdd_int, oSub_int, ipAdd_int, ipSub_int, oLt_int, oLe_int, oGt_int, oGe_int, oLt_str, oLe_str, oGt_str, oGe_str, oEq_int, oNe_int, oEq_bl, oNeg_int, oSubs_lst, oSubs_tup, oIx_lst, oIx_tup, oLen_lst, oLen_tup, oIn_str, oNotIn_str, seqOf_str, seqOf_tup, seqOf_lst, startS, RS.seq_nx, RS.seq_ret, RS.seq_brk, RS.seq_ct, RS.seq_err, RS.seq_bad, L2.DL.R.bind_ok, L2.DL.R.bind_err, L2.DL.R.bind_bad, rS_ok, rS_err, rS_bad, Option.bind_some, Option.bind_none, Option.map_some, Option.map_none, Option.join_some, gN, noOwn, noOwns, noObj, noObjs, noSh, noShs, frz, frzs, List.map_cons, List.map_nil, List.getElem?_cons_zero, List.getElem?_cons_succ, List.set_cons_zero, List.set_cons_succ, List.length_cons, List.length_nil, List.cons_append, List.nil_append, List.replicate, setS_nil, setS_cons, gsNil, gsCons, gTn, Bool.and_true, Bool.true_and, Bool.and_false, Bool.false_and, Bool.or_true, Bool.true_or, Bool.or_false, Bool.false_or, Bool.not_true, Bool.not_false, Bool.and_self, if_true, if_false, Bool.false_eq_true, reduceIte, decide_true, decide_false, callIO, callPB, gatherA, backA, List.take_succ_cons, List.take_zero, atI0, atI1, atI2, atI3, Nat.reduceAdd, Nat.reduceSub, Int.reduceLT, Int.reduceLE, Int.reduceNeg, Int.reduceAdd, Int.reduceSub, Int.reduceMul, Nat.reduceLT, Nat.reduceLeDiff, Int.reduceEq, Int.reduceBEq, d0, noOwns_T, e]
end RT

namespace RT
open L2 PyProof.Rows PySem.Spec PySem L2.DL SX
/-! ### plain sums over a dict -/
def cnt (f : Row → Row) : Dic → Row → Int
  | [], _ => 0
  | p :: ps, s => (if f p.1 = s then p.2 else 0) + cnt f ps s
def tot : Dic → Int
  | [] => 0
  | p :: ps => p.2 + tot ps
theorem cnt_const (z : Row) (ps : Dic) : cnt (fun _ => z) ps z = tot ps := by
  induction ps with
  | nil => rfl
  | cons p ps ih => simp only [cnt, tot, if_true, ih]
theorem get0_acc (f : Row → Row) (s : Row) : ∀ (ps D : Dic), get0 (accD f ps D) s = get0 D s + cnt f ps s
  | [], D => by simp only [accD, cnt, Int.add_zero]
  | p :: ps, D => by
    rw [accD, get0_acc f s ps, get0_put, cnt]
    by_cases h : f p.1 = s
    · rw [if_pos h, if_pos h, h]; omega
    · rw [if_neg h, if_neg h]; omega
theorem cnt_put (g : Row → Row) (s : Row) (r : Row) (c : Int) : ∀ D : Dic, (D.map Prod.fst).Nodup → cnt g (put D r c) s = cnt g D s + (if g r = s then c - get0 D r else 0) := by
  intro D hn
  unfold put
  by_cases h : r ∈ D.map Prod.fst
  · rw [if_pos h]
    induction D with
    | nil => cases h
    | cons p D ih =>
      rw [List.map_cons, List.nodup_cons] at hn
      rw [List.map_cons, cnt, cnt]
      by_cases e : p.1 = r
      · have hm : r ∉ D.map Prod.fst := by rw [← e]; exact hn.1
        have : (D.map fun p => if p.1 = r then (p.1, c) else p) = D := by
          refine (List.map_congr_left (g := id) fun q hq => ?_).trans (List.map_id D)
          exact if_neg fun z => hm (List.mem_map.mpr ⟨q, hq, z⟩)
        rw [this, if_pos e]
        have g0 : get0 (p :: D) r = p.2 := by unfold get0; rw [look, if_pos e]; rfl
        rw [g0, e]
        by_cases q : g r = s
        · simp only [if_pos q]; omega
        · simp only [if_neg q]; omega
      · have hm : r ∈ D.map Prod.fst := by
          rcases List.mem_cons.mp h with h | h
          · exact absurd h.symm e
          · exact h
        have g0 : get0 (p :: D) r = get0 D r := by unfold get0; rw [look, if_neg e]
        rw [if_neg e, ih hn.2 hm, g0]
        omega
  · rw [if_neg h]
    have g0 : get0 D r = 0 := by unfold get0; rw [look_none h]; rfl
    rw [g0]
    clear h hn g0
    induction D with
    | nil => simp only [List.nil_append, cnt]; split <;> omega
    | cons p D ih => rw [List.cons_append, cnt, cnt, ih]; omega
theorem cnt_acc (f g : Row → Row) (s : Row) : ∀ (ps D : Dic), (D.map Prod.fst).Nodup → cnt g (accD f ps D) s = cnt g D s + cnt (fun r => g (f r)) ps s
  | [], D, _ => by simp only [accD, cnt, Int.add_zero]
  | p :: ps, D, h => by
    rw [accD, cnt_acc f g s ps _ (put_nodup _ _ h), cnt_put g s _ _ D h, cnt]
    by_cases q : g (f p.1) = s
    · rw [if_pos q, if_pos q]; omega
    · rw [if_neg q, if_neg q]; omega
theorem cnt_perm {g : Row → Row} {s : Row} {a b : Dic} (h : a.Perm b) : cnt g a s = cnt g b s := by
  induction h with
  | nil => rfl
  | cons x _ ih => rw [cnt, cnt, ih]
  | swap x y l => rw [cnt, cnt, cnt, cnt]; omega
  | trans _ _ h1 h2 => exact h1.trans h2
theorem cnt_filter (g : Row → Row) (s : Row) : ∀ D : Dic, cnt g (D.filter fun p => p.2 != 0) s = cnt g D s
  | [] => rfl
  | p :: D => by
    by_cases h : p.2 = 0
    · rw [List.filter_cons, if_neg (by simp [h]), cnt_filter g s D, cnt, h]; split <;> omega
    · rw [List.filter_cons, if_pos (by simp [h]), cnt, cnt, cnt_filter g s D]
theorem get0_cons {p : Row × Int} {D : Dic} {r : Row} (h : p.1 ≠ r) : get0 (p :: D) r = get0 D r := by unfold get0; rw [look, if_neg h]
theorem get0_head (p : Row × Int) (D : Dic) : get0 (p :: D) p.1 = p.2 := by unfold get0; rw [look, if_pos rfl]; rfl
theorem map_get0 : ∀ {D : Dic}, (D.map Prod.fst).Nodup → (D.map Prod.fst).map (fun r => (r, get0 D r)) = D
  | [], _ => rfl
  | p :: D, h => by
    rw [List.map_cons, List.nodup_cons] at h
    rw [List.map_cons, List.map_cons, get0_head]
    congr 1
    rw [List.map_congr_left fun r hr => by rw [get0_cons fun e => h.1 (by rw [e]; exact hr)]]
    exact map_get0 h.2
theorem settle_perm {D : Dic} (h : (D.map Prod.fst).Nodup) : (settle D).Perm (D.filter fun p => p.2 != 0) := by
  have h1 : (settle D).Perm (((D.map Prod.fst).filter fun r => get0 D r != 0).map fun r => (r, get0 D r)) := ((sortR_perm _).filter _).map _
  have h2 : (((D.map Prod.fst).filter fun r => get0 D r != 0).map fun r => (r, get0 D r)) = D.filter fun p => p.2 != 0 := by
    have e := map_get0 h
    generalize hk : D.map Prod.fst = ks at *
    have : (D.filter fun p => p.2 != 0) = ((ks.map fun r => (r, get0 D r)).filter fun p => p.2 != 0) := by rw [e]
    rw [this, List.filter_map]
    rfl
  rw [h2] at h1
  exact h1
theorem cnt_settle {D : Dic} (g : Row → Row) (s : Row) (h : (D.map Prod.fst).Nodup) : cnt g (settle D) s = cnt g D s := (cnt_perm (settle_perm h)).trans (cnt_filter g s D)
theorem tot_settle {D : Dic} (h : (D.map Prod.fst).Nodup) : tot (settle D) = tot D := by
  have := cnt_settle (fun _ => []) [] h
  rwa [cnt_const, cnt_const] at this
theorem tot_acc (f : Row → Row) (ps : Dic) : tot (accD f ps []) = tot ps := by
  have := cnt_acc f (fun _ => []) [] ps [] List.nodup_nil
  simp only [cnt_const, tot, Int.zero_add] at this
  exact this
theorem cnt_id {D : Dic} (h : (D.map Prod.fst).Nodup) (s : Row) : cnt id D s = get0 D s := by
  induction D with
  | nil => rfl
  | cons p D ih =>
    rw [List.map_cons, List.nodup_cons] at h
    rw [cnt, ih h.2]
    show (if p.1 = s then p.2 else 0) + get0 D s = get0 (p :: D) s
    by_cases e : p.1 = s
    · have : get0 D s = 0 := by
        unfold get0
        rw [look_none (by rw [← e]; exact h.1)]; rfl
      rw [if_pos e, this, ← e, get0_head]; omega
    · rw [if_neg e, get0_cons e]; omega
theorem get0_settle {D : Dic} (h : (D.map Prod.fst).Nodup) (s : Row) : get0 (settle D) s = get0 D s := by
  rw [← cnt_id (settle_nodup h), cnt_settle _ _ h, cnt_id h]
/-! ### sorted: one list of the same rows -/
theorem sortR_sorted (l : List Row) : (sortR l).Pairwise (· ≤ ·) := by
  have := List.pairwise_mergeSort (le := leR) (fun a b c h1 h2 => by
    simp only [leR, decide_eq_true_eq] at *
    exact List.le_trans h1 h2) (fun a b => by
    simp only [leR, Bool.or_eq_true, decide_eq_true_eq]
    exact List.le_total a b) l
  exact this.imp fun h => by simpa [leR] using h
theorem sorted_ext : ∀ {l k : List Row}, l.Pairwise (· ≤ ·) → k.Pairwise (· ≤ ·) → l.Perm k → l = k
  | [], k, _, _, h => h.nil_eq
  | a :: l, [], _, _, h => by have := h.length_eq; simp at this
  | a :: l, b :: k, hl, hk, h => by
    rw [List.pairwise_cons] at hl hk
    have e : a = b := by
      have h1 : a ∈ b :: k := h.mem_iff.mp List.mem_cons_self
      have h2 : b ∈ a :: l := h.mem_iff.mpr List.mem_cons_self
      rcases List.mem_cons.mp h1 with h1 | h1
      · exact h1
      · rcases List.mem_cons.mp h2 with h2 | h2
        · exact h2.symm
        · exact List.le_antisymm (hl.1 b h2) (hk.1 a h1)
    subst e
    rw [sorted_ext hl.2 hk.2 ((List.perm_cons a).mp h)]
theorem perm_of_mem {l k : List Row} (hl : l.Nodup) (hk : k.Nodup) (h : ∀ x, x ∈ l ↔ x ∈ k) : l.Perm k := (List.perm_ext_iff_of_nodup hl hk).mpr h
theorem settle_sorted (D : Dic) : ((settle D).map Prod.fst).Pairwise (· ≤ ·) := by
  rw [settle_keys]
  exact List.Pairwise.filter _ (sortR_sorted _)
theorem mem_settle_keys {D : Dic} (r : Row) : r ∈ (settle D).map Prod.fst ↔ get0 D r ≠ 0 := by
  rw [settle_keys, List.mem_filter]
  constructor
  · intro h; simpa using h.2
  · intro h
    refine ⟨(sortR_perm _).mem_iff.mpr ?_, by simpa using h⟩
    by_cases hm : r ∈ D.map Prod.fst
    · exact hm
    · exact absurd (by unfold get0; rw [look_none hm]; rfl) h
/-- a tally: settled already -/
structure Tal (l : Dic) : Prop where
  nd : (l.map Prod.fst).Nodup
  st : (l.map Prod.fst).Pairwise (· ≤ ·)
  nz : ∀ p ∈ l, p.2 ≠ 0
theorem tal_settle {D : Dic} (h : (D.map Prod.fst).Nodup) : Tal (settle D) := ⟨settle_nodup h, settle_sorted D, fun p hp => (mem_settle hp).2.2⟩
theorem Tal.mem {l : Dic} (t : Tal l) (r : Row) : r ∈ l.map Prod.fst ↔ get0 l r ≠ 0 := by
  constructor
  · intro h
    exact t.nz _ (get0_mem h)
  · intro h
    by_cases hm : r ∈ l.map Prod.fst
    · exact hm
    · exact absurd (by unfold get0; rw [look_none hm]; rfl) h
theorem Tal.ext {l k : Dic} (hl : Tal l) (hk : Tal k) (h : ∀ r, get0 l r = get0 k r) : l = k := by
  have e : l.map Prod.fst = k.map Prod.fst := sorted_ext hl.st hk.st (perm_of_mem hl.nd hk.nd fun r => by rw [hl.mem, hk.mem, h r])
  rw [← map_get0 hl.nd, ← map_get0 hk.nd, e]
  exact List.map_congr_left fun r _ => by rw [h r]
/-- two dicts that count alike settle alike -/
theorem settle_ext {D E : Dic} (hD : (D.map Prod.fst).Nodup) (hE : (E.map Prod.fst).Nodup) (h : ∀ r, get0 D r = get0 E r) : settle D = settle E :=
  (tal_settle hD).ext (tal_settle hE) fun r => by rw [get0_settle hD, get0_settle hE, h r]
theorem Tal.settled {l : Dic} (t : Tal l) : settle l = l := (tal_settle t.nd).ext t fun r => get0_settle t.nd r
theorem acc_nodup (f : Row → Row) (ps : Dic) : ((accD f ps []).map Prod.fst).Nodup := accD_nodup f ps [] List.nodup_nil
/-- the share of a tally -/
def shr (f : Row → Row) (l : Dic) : Dic := settle (accD f l [])
theorem get0_nil (r : Row) : get0 [] r = 0 := rfl
theorem get0_shr (f : Row → Row) (l : Dic) (r : Row) : get0 (shr f l) r = cnt f l r := by
  rw [shr, get0_settle (acc_nodup f l), get0_acc, get0_nil, Int.zero_add]
theorem tal_shr (f : Row → Row) (l : Dic) : Tal (shr f l) := tal_settle (acc_nodup f l)
theorem tot_shr (f : Row → Row) (l : Dic) : tot (shr f l) = tot l := by rw [shr, tot_settle (acc_nodup f l), tot_acc]
theorem cnt_shr (f g : Row → Row) (l : Dic) (r : Row) : cnt g (shr f l) r = cnt (fun r => g (f r)) l r := by
  rw [shr, cnt_settle g r (acc_nodup f l), cnt_acc f g r l [] List.nodup_nil, cnt, Int.zero_add]
theorem shr_shr (f g : Row → Row) (l : Dic) : shr g (shr f l) = shr (fun r => g (f r)) l :=
  (tal_shr _ _).ext (tal_shr _ _) fun r => by rw [get0_shr, get0_shr, cnt_shr]
theorem cnt_congr {f g : Row → Row} : ∀ {l : Dic}, (∀ p ∈ l, f p.1 = g p.1) → ∀ r, cnt f l r = cnt g l r
  | [], _, _ => rfl
  | p :: l, h, r => by rw [cnt, cnt, h p List.mem_cons_self, cnt_congr fun q hq => h q (List.mem_cons_of_mem _ hq)]
theorem shr_congr {f g : Row → Row} {l : Dic} (h : ∀ p ∈ l, f p.1 = g p.1) : shr f l = shr g l :=
  (tal_shr _ _).ext (tal_shr _ _) fun r => by rw [get0_shr, get0_shr, cnt_congr h]
theorem shr_id {l : Dic} (t : Tal l) : shr id l = l := (tal_shr _ _).ext t fun r => by rw [get0_shr, cnt_id t.nd]
/-- two tallies added -/
def cntd (l : Dic) : Dic := l.foldl (fun D p => put D p.1 p.2) []
theorem foldl_put_nodup : ∀ (l D : Dic), (D.map Prod.fst).Nodup → ((l.foldl (fun D p => put D p.1 p.2) D).map Prod.fst).Nodup
  | [], _, h => h
  | p :: l, D, h => by rw [List.foldl_cons]; exact foldl_put_nodup l _ (put_nodup _ _ h)
theorem foldl_put_get : ∀ (l D : Dic), (l.map Prod.fst).Nodup → (∀ r ∈ l.map Prod.fst, r ∉ D.map Prod.fst) → l.foldl (fun D p => put D p.1 p.2) D = D ++ l
  | [], D, _, _ => by simp
  | p :: l, D, h, h2 => by
    rw [List.map_cons, List.nodup_cons] at h
    have h3 := h2 p.1 (by rw [List.map_cons]; exact List.mem_cons_self)
    have e : put D p.1 p.2 = D ++ [p] := by unfold put; rw [if_neg h3]
    rw [List.foldl_cons, e, foldl_put_get l _ h.2 fun r hr hm => ?_]
    · simp
    · rw [List.map_append] at hm
      rcases List.mem_append.mp hm with hm | hm
      · exact h2 r (by rw [List.map_cons]; exact List.mem_cons_of_mem _ hr) hm
      · simp only [List.map_cons, List.map_nil, List.mem_singleton] at hm
        subst hm; exact h.1 hr
theorem cntd_eq {l : Dic} (h : (l.map Prod.fst).Nodup) : cntd l = l := by
  have := foldl_put_get l [] h fun _ _ h => by cases h
  simpa [cntd] using this
def pls (a b : Dic) : Dic := settle (accD id b (cntd a))
theorem cntd_nodup (a : Dic) : ((cntd a).map Prod.fst).Nodup := foldl_put_nodup a [] List.nodup_nil
theorem tal_pls (a b : Dic) : Tal (pls a b) := tal_settle (accD_nodup id b _ (cntd_nodup a))
theorem get0_pls {a b : Dic} (ha : Tal a) (hb : Tal b) (r : Row) : get0 (pls a b) r = get0 a r + get0 b r := by
  rw [pls, get0_settle (accD_nodup id b _ (cntd_nodup a)), get0_acc, cntd_eq ha.nd, cnt_id hb.nd]
theorem cnt_pls {a b : Dic} (f : Row → Row) (ha : Tal a) (r : Row) : cnt f (pls a b) r = cnt f a r + cnt f b r := by
  rw [pls, cnt_settle _ _ (accD_nodup id b _ (cntd_nodup a)), cntd_eq ha.nd, cnt_acc id f r b a ha.nd]
  rfl
theorem shr_pls {a b : Dic} (f : Row → Row) (ha : Tal a) (hb : Tal b) : shr f (pls a b) = pls (shr f a) (shr f b) :=
  (tal_shr _ _).ext (tal_pls _ _) fun r => by rw [get0_shr, cnt_pls f ha, get0_pls (tal_shr _ _) (tal_shr _ _), get0_shr, get0_shr]
end RT

namespace RT
open L2 PyProof.Rows PySem.Spec PySem L2.DL SX
/-! ### rooms and parts of any kind -/
structure PartV (pv : Val) (part : List (List Nat)) : Prop where
  own : noOwn pv = true
  obj : noObj pv = true
  fr : frz pv = pv
  seq : seqOf pv = some (pv, encN part)
  nin : ∀ s, oNotIn (.str (S s)) pv = some (.bl (!decide (s ∈ part)))
theorem partV_tpz (ss : List (List Nat)) : PartV (.tpz (encN ss)) ss := ⟨by simp only [noOwn, noOwns_N], by simp only [noObj, noObjs_N], by simp only [frz, frzs_N], rfl, fun s => oNotIn_Nz s ss⟩
theorem partV_tup (ss : List (List Nat)) : PartV (.tup (encN ss)) ss := ⟨by simp only [noOwn, noOwns_N], by simp only [noObj, noObjs_N], by simp only [frz, frzs_N], rfl, fun s => by
  simp only [oNotIn, inB, atom, atoms_N, inV_N, Option.map_some, Option.bind_some]⟩
theorem within_loopG {a : Option Val} {rv : Val} {room : List (List Nat)} (R : PartV rv room) : ∀ (l : List (List Nat)) (x : Option Val), ∃ x', forL [2] gN l1_within (encN l) [a, some rv, x] = if inAll l room = true then .nx [a, some rv, x'] else .ret (.bl false) [a, some rv, x']
  | [], x => ⟨x, rfl⟩
  | k :: l, x => by
    obtain ⟨x', ih⟩ := within_loopG (a := a) R l (some (.str (S k)))
    rw [encN_cons, forL]
    by_cases h : k ∈ room
    · have q : inAll (k :: l) room = inAll l room := by simp only [inAll, List.all_cons, h, decide_true, Bool.true_and]
      refine ⟨x', ?_⟩
      simp only [sSeq_ap, sNil_ap, sIf_ap, sSet_ap, sRet_ap, sRetN_ap, sDrop_ap, sAsg_ap, sFor_ap, sAug_ap, sAugL_ap, sPut_ap, mT_ap, mTest_ap, mF_ap, mP_ap, mMove_ap, mFrz_ap, mFz_ap, sRaiseI_ap, mOp2_ap, mOp1_ap, mOpS_ap, mIx_ap, mIxL_ap, mIte_ap, mNot_ap, mAnd_ap, mOr_ap, mAndV_ap, mOrV_ap, msNil_ap, msCons_ap, psNil_ap, psCons_ap, pVar_ap, pC_ap, pOp1_ap, pOp2_ap, pOpS_ap, pTest_ap, pNot_ap, pAnd_ap, pOr_ap, pVal_ap, pAndV_ap, pOrV_ap, pIte_ap, pChain_ap, pNo_ap, poNone_ap, poSome_ap, pSl_ap, pSeq_ap, mSeq_ap, pRng_ap, mRng_ap, pComp_ap, mComp_ap, pYes_ap, pMet_ap, mMet_ap, mMeth_ap, pIsi_ap, pGet2_ap, aNil_ap, aSlot_ap, aVal_ap, mCallIO_ap, mCall_ap, mCallP_ap, mCallPB_ap, oIsN_ap, oNotN_ap, oAdd_int, oSub_int, ipAdd_int, ipSub_int, oLt_int, oLe_int, oGt_int, oGe_int, oLt_str, oLe_str, oGt_str, oGe_str, oEq_int, oNe_int, oEq_bl, oNeg_int, oSubs_lst, oSubs_tup, oIx_lst, oIx_tup, oLen_lst, oLen_tup, oIn_str, oNotIn_str, seqOf_str, seqOf_tup, seqOf_lst, startS, RS.seq_nx, RS.seq_ret, RS.seq_brk, RS.seq_ct, RS.seq_err, RS.seq_bad, L2.DL.R.bind_ok, L2.DL.R.bind_err, L2.DL.R.bind_bad, rS_ok, rS_err, rS_bad, Option.bind_some, Option.bind_none, Option.map_some, Option.map_none, Option.join_some, gN, noOwn, noOwns, noObj, noObjs, noSh, noShs, frz, frzs, List.map_cons, List.map_nil, List.getElem?_cons_zero, List.getElem?_cons_succ, List.set_cons_zero, List.set_cons_succ, List.length_cons, List.length_nil, List.cons_append, List.nil_append, List.replicate, setS_nil, setS_cons, gsNil, gsCons, gTn, Bool.and_true, Bool.true_and, Bool.and_false, Bool.false_and, Bool.or_true, Bool.true_or, Bool.or_false, Bool.false_or, Bool.not_true, Bool.not_false, Bool.and_self, if_true, if_false, Bool.false_eq_true, reduceIte, decide_true, decide_false, callIO, callPB, gatherA, backA, List.take_succ_cons, List.take_zero, atI0, atI1, atI2, atI3, Nat.reduceAdd, Nat.reduceSub, Int.reduceLT, Int.reduceLE, Int.reduceNeg, Int.reduceAdd, Int.reduceSub, Int.reduceMul, Nat.reduceLT, Nat.reduceLeDiff, Int.reduceEq, Int.reduceBEq, l1_within, R.nin, h, q]
      exact ih
    · have q : inAll (k :: l) room = false := by simp only [inAll, List.all_cons, h, decide_false, Bool.false_and]
      refine ⟨some (.str (S k)), ?_⟩
      simp only [sSeq_ap, sNil_ap, sIf_ap, sSet_ap, sRet_ap, sRetN_ap, sDrop_ap, sAsg_ap, sFor_ap, sAug_ap, sAugL_ap, sPut_ap, mT_ap, mTest_ap, mF_ap, mP_ap, mMove_ap, mFrz_ap, mFz_ap, sRaiseI_ap, mOp2_ap, mOp1_ap, mOpS_ap, mIx_ap, mIxL_ap, mIte_ap, mNot_ap, mAnd_ap, mOr_ap, mAndV_ap, mOrV_ap, msNil_ap, msCons_ap, psNil_ap, psCons_ap, pVar_ap, pC_ap, pOp1_ap, pOp2_ap, pOpS_ap, pTest_ap, pNot_ap, pAnd_ap, pOr_ap, pVal_ap, pAndV_ap, pOrV_ap, pIte_ap, pChain_ap, pNo_ap, poNone_ap, poSome_ap, pSl_ap, pSeq_ap, mSeq_ap, pRng_ap, mRng_ap, pComp_ap, mComp_ap, pYes_ap, pMet_ap, mMet_ap, mMeth_ap, pIsi_ap, pGet2_ap, aNil_ap, aSlot_ap, aVal_ap, mCallIO_ap, mCall_ap, mCallP_ap, mCallPB_ap, oIsN_ap, oNotN_ap, oAdd_int, oSub_int, ipAdd_int, ipSub_int, oLt_int, oLe_int, oGt_int, oGe_int, oLt_str, oLe_str, oGt_str, oGe_str, oEq_int, oNe_int, oEq_bl, oNeg_int, oSubs_lst, oSubs_tup, oIx_lst, oIx_tup, oLen_lst, oLen_tup, oIn_str, oNotIn_str, seqOf_str, seqOf_tup, seqOf_lst, startS, RS.seq_nx, RS.seq_ret, RS.seq_brk, RS.seq_ct, RS.seq_err, RS.seq_bad, L2.DL.R.bind_ok, L2.DL.R.bind_err, L2.DL.R.bind_bad, rS_ok, rS_err, rS_bad, Option.bind_some, Option.bind_none, Option.map_some, Option.map_none, Option.join_some, gN, noOwn, noOwns, noObj, noObjs, noSh, noShs, frz, frzs, List.map_cons, List.map_nil, List.getElem?_cons_zero, List.getElem?_cons_succ, List.set_cons_zero, List.set_cons_succ, List.length_cons, List.length_nil, List.cons_append, List.nil_append, List.replicate, setS_nil, setS_cons, gsNil, gsCons, gTn, Bool.and_true, Bool.true_and, Bool.and_false, Bool.false_and, Bool.or_true, Bool.true_or, Bool.or_false, Bool.false_or, Bool.not_true, Bool.not_false, Bool.and_self, if_true, if_false, Bool.false_eq_true, reduceIte, decide_true, decide_false, callIO, callPB, gatherA, backA, List.take_succ_cons, List.take_zero, atI0, atI1, atI2, atI3, Nat.reduceAdd, Nat.reduceSub, Int.reduceLT, Int.reduceLE, Int.reduceNeg, Int.reduceAdd, Int.reduceSub, Int.reduceMul, Nat.reduceLT, Nat.reduceLeDiff, Int.reduceEq, Int.reduceBEq, l1_within, R.nin, h, q]
theorem within_callG {pv rv : Val} {part room : List (List Nat)} (P : PartV pv part) (R : PartV rv room) : callP m_within [pv, rv] = some (.bl (inAll part room)) := by
  have e : m_within [pv, rv] = .ok (.bl (inAll part room)) := by
    unfold m_within fnP g_within
    obtain ⟨x', e⟩ := within_loopG (a := some pv) R part none
    simp only [sSeq_ap, sNil_ap, sIf_ap, sSet_ap, sRet_ap, sRetN_ap, sDrop_ap, sAsg_ap, sFor_ap, sAug_ap, sAugL_ap, sPut_ap, mT_ap, mTest_ap, mF_ap, mP_ap, mMove_ap, mFrz_ap, mFz_ap, sRaiseI_ap, mOp2_ap, mOp1_ap, mOpS_ap, mIx_ap, mIxL_ap, mIte_ap, mNot_ap, mAnd_ap, mOr_ap, mAndV_ap, mOrV_ap, msNil_ap, msCons_ap, psNil_ap, psCons_ap, pVar_ap, pC_ap, pOp1_ap, pOp2_ap, pOpS_ap, pTest_ap, pNot_ap, pAnd_ap, pOr_ap, pVal_ap, pAndV_ap, pOrV_ap, pIte_ap, pChain_ap, pNo_ap, poNone_ap, poSome_ap, pSl_ap, pSeq_ap, mSeq_ap, pRng_ap, mRng_ap, pComp_ap, mComp_ap, pYes_ap, pMet_ap, mMet_ap, mMeth_ap, pIsi_ap, pGet2_ap, aNil_ap, aSlot_ap, aVal_ap, mCallIO_ap, mCall_ap, mCallP_ap, mCallPB_ap, oIsN_ap, oNotN_ap, oAdd_int, oSub_int, ipAdd_int, ipSub_int, oLt_int, oLe_int, oGt_int, oGe_int, oLt_str, oLe_str, oGt_str, oGe_str, oEq_int, oNe_int, oEq_bl, oNeg_int, oSubs_lst, oSubs_tup, oIx_lst, oIx_tup, oLen_lst, oLen_tup, oIn_str, oNotIn_str, seqOf_str, seqOf_tup, seqOf_lst, startS, RS.seq_nx, RS.seq_ret, RS.seq_brk, RS.seq_ct, RS.seq_err, RS.seq_bad, L2.DL.R.bind_ok, L2.DL.R.bind_err, L2.DL.R.bind_bad, rS_ok, rS_err, rS_bad, Option.bind_some, Option.bind_none, Option.map_some, Option.map_none, Option.join_some, gN, noOwn, noOwns, noObj, noObjs, noSh, noShs, frz, frzs, List.map_cons, List.map_nil, List.getElem?_cons_zero, List.getElem?_cons_succ, List.set_cons_zero, List.set_cons_succ, List.length_cons, List.length_nil, List.cons_append, List.nil_append, List.replicate, setS_nil, setS_cons, gsNil, gsCons, gTn, Bool.and_true, Bool.true_and, Bool.and_false, Bool.false_and, Bool.or_true, Bool.true_or, Bool.or_false, Bool.false_or, Bool.not_true, Bool.not_false, Bool.and_self, if_true, if_false, Bool.false_eq_true, reduceIte, decide_true, decide_false, callIO, callPB, gatherA, backA, List.take_succ_cons, List.take_zero, atI0, atI1, atI2, atI3, Nat.reduceAdd, Nat.reduceSub, Int.reduceLT, Int.reduceLE, Int.reduceNeg, Int.reduceAdd, Int.reduceSub, Int.reduceMul, Nat.reduceLT, Nat.reduceLeDiff, Int.reduceEq, Int.reduceBEq, P.own, P.seq, e]
    cases inAll part room <;> simp only [sSeq_ap, sNil_ap, sIf_ap, sSet_ap, sRet_ap, sRetN_ap, sDrop_ap, sAsg_ap, sFor_ap, sAug_ap, sAugL_ap, sPut_ap, mT_ap, mTest_ap, mF_ap, mP_ap, mMove_ap, mFrz_ap, mFz_ap, sRaiseI_ap, mOp2_ap, mOp1_ap, mOpS_ap, mIx_ap, mIxL_ap, mIte_ap, mNot_ap, mAnd_ap, mOr_ap, mAndV_ap, mOrV_ap, msNil_ap, msCons_ap, psNil_ap, psCons_ap, pVar_ap, pC_ap, pOp1_ap, pOp2_ap, pOpS_ap, pTest_ap, pNot_ap, pAnd_ap, pOr_ap, pVal_ap, pAndV_ap, pOrV_ap, pIte_ap, pChain_ap, pNo_ap, poNone_ap, poSome_ap, pSl_ap, pSeq_ap, mSeq_ap, pRng_ap, mRng_ap, pComp_ap, mComp_ap, pYes_ap, pMet_ap, mMet_ap, mMeth_ap, pIsi_ap, pGet2_ap, aNil_ap, aSlot_ap, aVal_ap, mCallIO_ap, mCall_ap, mCallP_ap, mCallPB_ap, oIsN_ap, oNotN_ap, oAdd_int, oSub_int, ipAdd_int, ipSub_int, oLt_int, oLe_int, oGt_int, oGe_int, oLt_str, oLe_str, oGt_str, oGe_str, oEq_int, oNe_int, oEq_bl, oNeg_int, oSubs_lst, oSubs_tup, oIx_lst, oIx_tup, oLen_lst, oLen_tup, oIn_str, oNotIn_str, seqOf_str, seqOf_tup, seqOf_lst, startS, RS.seq_nx, RS.seq_ret, RS.seq_brk, RS.seq_ct, RS.seq_err, RS.seq_bad, L2.DL.R.bind_ok, L2.DL.R.bind_err, L2.DL.R.bind_bad, rS_ok, rS_err, rS_bad, Option.bind_some, Option.bind_none, Option.map_some, Option.map_none, Option.join_some, gN, noOwn, noOwns, noObj, noObjs, noSh, noShs, frz, frzs, List.map_cons, List.map_nil, List.getElem?_cons_zero, List.getElem?_cons_succ, List.set_cons_zero, List.set_cons_succ, List.length_cons, List.length_nil, List.cons_append, List.nil_append, List.replicate, setS_nil, setS_cons, gsNil, gsCons, gTn, Bool.and_true, Bool.true_and, Bool.and_false, Bool.false_and, Bool.or_true, Bool.true_or, Bool.or_false, Bool.false_or, Bool.not_true, Bool.not_false, Bool.and_self, if_true, if_false, Bool.false_eq_true, reduceIte, decide_true, decide_false, callIO, callPB, gatherA, backA, List.take_succ_cons, List.take_zero, atI0, atI1, atI2, atI3, Nat.reduceAdd, Nat.reduceSub, Int.reduceLT, Int.reduceLE, Int.reduceNeg, Int.reduceAdd, Int.reduceSub, Int.reduceMul, Nat.reduceLT, Nat.reduceLeDiff, Int.reduceEq, Int.reduceBEq]
  simp only [callP, noObjs, P.obj, R.obj, frzs, P.fr, R.fr, e, sSeq_ap, sNil_ap, sIf_ap, sSet_ap, sRet_ap, sRetN_ap, sDrop_ap, sAsg_ap, sFor_ap, sAug_ap, sAugL_ap, sPut_ap, mT_ap, mTest_ap, mF_ap, mP_ap, mMove_ap, mFrz_ap, mFz_ap, sRaiseI_ap, mOp2_ap, mOp1_ap, mOpS_ap, mIx_ap, mIxL_ap, mIte_ap, mNot_ap, mAnd_ap, mOr_ap, mAndV_ap, mOrV_ap, msNil_ap, msCons_ap, psNil_ap, psCons_ap, pVar_ap, pC_ap, pOp1_ap, pOp2_ap, pOpS_ap, pTest_ap, pNot_ap, pAnd_ap, pOr_ap, pVal_ap, pAndV_ap, pOrV_ap, pIte_ap, pChain_ap, pNo_ap, poNone_ap, poSome_ap, pSl_ap, pSeq_ap, mSeq_ap, pRng_ap, mRng_ap, pComp_ap, mComp_ap, pYes_ap, pMet_ap, mMet_ap, mMeth_ap, pIsi_ap, pGet2_ap, aNil_ap, aSlot_ap, aVal_ap, mCallIO_ap, mCall_ap, mCallP_ap, mCallPB_ap, oIsN_ap, oNotN_ap, oAdd_int, oSub_int, ipAdd_int, ipSub_int, oLt_int, oLe_int, oGt_int, oGe_int, oLt_str, oLe_str, oGt_str, oGe_str, oEq_int, oNe_int, oEq_bl, oNeg_int, oSubs_lst, oSubs_tup, oIx_lst, oIx_tup, oLen_lst, oLen_tup, oIn_str, oNotIn_str, seqOf_str, seqOf_tup, seqOf_lst, startS, RS.seq_nx, RS.seq_ret, RS.seq_brk, RS.seq_ct, RS.seq_err, RS.seq_bad, L2.DL.R.bind_ok, L2.DL.R.bind_err, L2.DL.R.bind_bad, rS_ok, rS_err, rS_bad, Option.bind_some, Option.bind_none, Option.map_some, Option.map_none, Option.join_some, gN, noOwn, noOwns, noObj, noObjs, noSh, noShs, frz, frzs, List.map_cons, List.map_nil, List.getElem?_cons_zero, List.getElem?_cons_succ, List.set_cons_zero, List.set_cons_succ, List.length_cons, List.length_nil, List.cons_append, List.nil_append, List.replicate, setS_nil, setS_cons, gsNil, gsCons, gTn, Bool.and_true, Bool.true_and, Bool.and_false, Bool.false_and, Bool.or_true, Bool.true_or, Bool.or_false, Bool.false_or, Bool.not_true, Bool.not_false, Bool.and_self, if_true, if_false, Bool.false_eq_true, reduceIte, decide_true, decide_false, callIO, callPB, gatherA, backA, List.take_succ_cons, List.take_zero, atI0, atI1, atI2, atI3, Nat.reduceAdd, Nat.reduceSub, Int.reduceLT, Int.reduceLE, Int.reduceNeg, Int.reduceAdd, Int.reduceSub, Int.reduceMul, Nat.reduceLT, Nat.reduceLeDiff, Int.reduceEq, Int.reduceBEq]
theorem places_fail {pv rv : Val} {part room : List (List Nat)} (P : PartV pv part) (R : PartV rv room) (h : inAll part room = false) : m_places [rv, pv] = .err "BadRoom" none := by
  unfold m_places fnP g_places
  simp only [sSeq_ap, sNil_ap, sIf_ap, sSet_ap, sRet_ap, sRetN_ap, sDrop_ap, sAsg_ap, sFor_ap, sAug_ap, sAugL_ap, sPut_ap, mT_ap, mTest_ap, mF_ap, mP_ap, mMove_ap, mFrz_ap, mFz_ap, sRaiseI_ap, mOp2_ap, mOp1_ap, mOpS_ap, mIx_ap, mIxL_ap, mIte_ap, mNot_ap, mAnd_ap, mOr_ap, mAndV_ap, mOrV_ap, msNil_ap, msCons_ap, psNil_ap, psCons_ap, pVar_ap, pC_ap, pOp1_ap, pOp2_ap, pOpS_ap, pTest_ap, pNot_ap, pAnd_ap, pOr_ap, pVal_ap, pAndV_ap, pOrV_ap, pIte_ap, pChain_ap, pNo_ap, poNone_ap, poSome_ap, pSl_ap, pSeq_ap, mSeq_ap, pRng_ap, mRng_ap, pComp_ap, mComp_ap, pYes_ap, pMet_ap, mMet_ap, mMeth_ap, pIsi_ap, pGet2_ap, aNil_ap, aSlot_ap, aVal_ap, mCallIO_ap, mCall_ap, mCallP_ap, mCallPB_ap, oIsN_ap, oNotN_ap, oAdd_int, oSub_int, ipAdd_int, ipSub_int, oLt_int, oLe_int, oGt_int, oGe_int, oLt_str, oLe_str, oGt_str, oGe_str, oEq_int, oNe_int, oEq_bl, oNeg_int, oSubs_lst, oSubs_tup, oIx_lst, oIx_tup, oLen_lst, oLen_tup, oIn_str, oNotIn_str, seqOf_str, seqOf_tup, seqOf_lst, startS, RS.seq_nx, RS.seq_ret, RS.seq_brk, RS.seq_ct, RS.seq_err, RS.seq_bad, L2.DL.R.bind_ok, L2.DL.R.bind_err, L2.DL.R.bind_bad, rS_ok, rS_err, rS_bad, Option.bind_some, Option.bind_none, Option.map_some, Option.map_none, Option.join_some, gN, noOwn, noOwns, noObj, noObjs, noSh, noShs, frz, frzs, List.map_cons, List.map_nil, List.getElem?_cons_zero, List.getElem?_cons_succ, List.set_cons_zero, List.set_cons_succ, List.length_cons, List.length_nil, List.cons_append, List.nil_append, List.replicate, setS_nil, setS_cons, gsNil, gsCons, gTn, Bool.and_true, Bool.true_and, Bool.and_false, Bool.false_and, Bool.or_true, Bool.true_or, Bool.or_false, Bool.false_or, Bool.not_true, Bool.not_false, Bool.and_self, if_true, if_false, Bool.false_eq_true, reduceIte, decide_true, decide_false, callIO, callPB, gatherA, backA, List.take_succ_cons, List.take_zero, atI0, atI1, atI2, atI3, Nat.reduceAdd, Nat.reduceSub, Int.reduceLT, Int.reduceLE, Int.reduceNeg, Int.reduceAdd, Int.reduceSub, Int.reduceMul, Nat.reduceLT, Nat.reduceLeDiff, Int.reduceEq, Int.reduceBEq, within_callG P R, h]
theorem places_specG {pv : Val} {part room : List (List Nat)} (P : PartV pv part) (hl : part.length ≤ 16777216) (h : inAll part room = true) : m_places [.tpz (encN room), pv] = .ok (.lst true (encI (spots room part))) := by
  unfold m_places fnP g_places
  have cp : compP [2] gN pYes (pIdx (pVar 0) (pVar 2)) [some (.tpz (encN room)), some pv, none] (encN part) = some (part.map fun n => .int ((room.idxOf n : Nat) : Int)) :=
    compP_str _ part fun s hs => by
      have : s ∈ room := of_decide_eq_true (List.all_eq_true.mp h s hs)
      simp only [sSeq_ap, sNil_ap, sIf_ap, sSet_ap, sRet_ap, sRetN_ap, sDrop_ap, sAsg_ap, sFor_ap, sAug_ap, sAugL_ap, sPut_ap, mT_ap, mTest_ap, mF_ap, mP_ap, mMove_ap, mFrz_ap, mFz_ap, sRaiseI_ap, mOp2_ap, mOp1_ap, mOpS_ap, mIx_ap, mIxL_ap, mIte_ap, mNot_ap, mAnd_ap, mOr_ap, mAndV_ap, mOrV_ap, msNil_ap, msCons_ap, psNil_ap, psCons_ap, pVar_ap, pC_ap, pOp1_ap, pOp2_ap, pOpS_ap, pTest_ap, pNot_ap, pAnd_ap, pOr_ap, pVal_ap, pAndV_ap, pOrV_ap, pIte_ap, pChain_ap, pNo_ap, poNone_ap, poSome_ap, pSl_ap, pSeq_ap, mSeq_ap, pRng_ap, mRng_ap, pComp_ap, mComp_ap, pYes_ap, pMet_ap, mMet_ap, mMeth_ap, pIsi_ap, pGet2_ap, aNil_ap, aSlot_ap, aVal_ap, mCallIO_ap, mCall_ap, mCallP_ap, mCallPB_ap, oIsN_ap, oNotN_ap, oAdd_int, oSub_int, ipAdd_int, ipSub_int, oLt_int, oLe_int, oGt_int, oGe_int, oLt_str, oLe_str, oGt_str, oGe_str, oEq_int, oNe_int, oEq_bl, oNeg_int, oSubs_lst, oSubs_tup, oIx_lst, oIx_tup, oLen_lst, oLen_tup, oIn_str, oNotIn_str, seqOf_str, seqOf_tup, seqOf_lst, startS, RS.seq_nx, RS.seq_ret, RS.seq_brk, RS.seq_ct, RS.seq_err, RS.seq_bad, L2.DL.R.bind_ok, L2.DL.R.bind_err, L2.DL.R.bind_bad, rS_ok, rS_err, rS_bad, Option.bind_some, Option.bind_none, Option.map_some, Option.map_none, Option.join_some, gN, noOwn, noOwns, noObj, noObjs, noSh, noShs, frz, frzs, List.map_cons, List.map_nil, List.getElem?_cons_zero, List.getElem?_cons_succ, List.set_cons_zero, List.set_cons_succ, List.length_cons, List.length_nil, List.cons_append, List.nil_append, List.replicate, setS_nil, setS_cons, gsNil, gsCons, gTn, Bool.and_true, Bool.true_and, Bool.and_false, Bool.false_and, Bool.or_true, Bool.true_or, Bool.or_false, Bool.false_or, Bool.not_true, Bool.not_false, Bool.and_self, if_true, if_false, Bool.false_eq_true, reduceIte, decide_true, decide_false, callIO, callPB, gatherA, backA, List.take_succ_cons, List.take_zero, atI0, atI1, atI2, atI3, Nat.reduceAdd, Nat.reduceSub, Int.reduceLT, Int.reduceLE, Int.reduceNeg, Int.reduceAdd, Int.reduceSub, Int.reduceMul, Nat.reduceLT, Nat.reduceLeDiff, Int.reduceEq, Int.reduceBEq, pIdx, gIndex_N this]
  have w2 : ∀ a b c, wipeS [a, b, c] [2] = [a, b, none] := fun _ _ _ => rfl
  have lz : (part.map fun n => Val.int ((room.idxOf n : Nat) : Int)).length ≤ sizeLine := by rw [List.length_map, sizeLine_eq]; exact hl
  simp only [sSeq_ap, sNil_ap, sIf_ap, sSet_ap, sRet_ap, sRetN_ap, sDrop_ap, sAsg_ap, sFor_ap, sAug_ap, sAugL_ap, sPut_ap, mT_ap, mTest_ap, mF_ap, mP_ap, mMove_ap, mFrz_ap, mFz_ap, sRaiseI_ap, mOp2_ap, mOp1_ap, mOpS_ap, mIx_ap, mIxL_ap, mIte_ap, mNot_ap, mAnd_ap, mOr_ap, mAndV_ap, mOrV_ap, msNil_ap, msCons_ap, psNil_ap, psCons_ap, pVar_ap, pC_ap, pOp1_ap, pOp2_ap, pOpS_ap, pTest_ap, pNot_ap, pAnd_ap, pOr_ap, pVal_ap, pAndV_ap, pOrV_ap, pIte_ap, pChain_ap, pNo_ap, poNone_ap, poSome_ap, pSl_ap, pSeq_ap, mSeq_ap, pRng_ap, mRng_ap, pComp_ap, mComp_ap, pYes_ap, pMet_ap, mMet_ap, mMeth_ap, pIsi_ap, pGet2_ap, aNil_ap, aSlot_ap, aVal_ap, mCallIO_ap, mCall_ap, mCallP_ap, mCallPB_ap, oIsN_ap, oNotN_ap, oAdd_int, oSub_int, ipAdd_int, ipSub_int, oLt_int, oLe_int, oGt_int, oGe_int, oLt_str, oLe_str, oGt_str, oGe_str, oEq_int, oNe_int, oEq_bl, oNeg_int, oSubs_lst, oSubs_tup, oIx_lst, oIx_tup, oLen_lst, oLen_tup, oIn_str, oNotIn_str, seqOf_str, seqOf_tup, seqOf_lst, startS, RS.seq_nx, RS.seq_ret, RS.seq_brk, RS.seq_ct, RS.seq_err, RS.seq_bad, L2.DL.R.bind_ok, L2.DL.R.bind_err, L2.DL.R.bind_bad, rS_ok, rS_err, rS_bad, Option.bind_some, Option.bind_none, Option.map_some, Option.map_none, Option.join_some, gN, noOwn, noOwns, noObj, noObjs, noSh, noShs, frz, frzs, List.map_cons, List.map_nil, List.getElem?_cons_zero, List.getElem?_cons_succ, List.set_cons_zero, List.set_cons_succ, List.length_cons, List.length_nil, List.cons_append, List.nil_append, List.replicate, setS_nil, setS_cons, gsNil, gsCons, gTn, Bool.and_true, Bool.true_and, Bool.and_false, Bool.false_and, Bool.or_true, Bool.true_or, Bool.or_false, Bool.false_or, Bool.not_true, Bool.not_false, Bool.and_self, if_true, if_false, Bool.false_eq_true, reduceIte, decide_true, decide_false, callIO, callPB, gatherA, backA, List.take_succ_cons, List.take_zero, atI0, atI1, atI2, atI3, Nat.reduceAdd, Nat.reduceSub, Int.reduceLT, Int.reduceLE, Int.reduceNeg, Int.reduceAdd, Int.reduceSub, Int.reduceMul, Nat.reduceLT, Nat.reduceLeDiff, Int.reduceEq, Int.reduceBEq, within_callG P (partV_tpz room), h, P.seq, w2, cp, lz]
  simp only [encI, spots, List.map_map, Function.comp_def]
theorem picked_call {row : Row} {room part : List (List Nat)} (hr : room.length = row.length) (h : inAll part room = true) (hl : part.length ≤ 16777216) (o : Bool) : callP m_picked [.tup (encI row), .lst o (encI (spots room part))] = some (.tup (encI (shareR room row part))) := by
  have pk := picked_spec (row := row) (sp := spots room part) (o := false) (fun i hi => by
    obtain ⟨n, hn, rfl⟩ := List.mem_map.mp hi
    have := idx_lt (of_decide_eq_true (List.all_eq_true.mp h n hn))
    omega) (by simp only [spots, List.length_map]; exact hl)
  have e : (spots room part).map (fun i => row.getD i.toNat 0) = shareR room row part := by
    simp only [spots, shareR, List.map_map, Function.comp_def, Int.toNat_natCast]
  rw [e] at pk
  simp only [callP, noObjs, noObj, noObjs_I, frzs, frz, frzs_I, pk, noSh, noShs_I, sSeq_ap, sNil_ap, sIf_ap, sSet_ap, sRet_ap, sRetN_ap, sDrop_ap, sAsg_ap, sFor_ap, sAug_ap, sAugL_ap, sPut_ap, mT_ap, mTest_ap, mF_ap, mP_ap, mMove_ap, mFrz_ap, mFz_ap, sRaiseI_ap, mOp2_ap, mOp1_ap, mOpS_ap, mIx_ap, mIxL_ap, mIte_ap, mNot_ap, mAnd_ap, mOr_ap, mAndV_ap, mOrV_ap, msNil_ap, msCons_ap, psNil_ap, psCons_ap, pVar_ap, pC_ap, pOp1_ap, pOp2_ap, pOpS_ap, pTest_ap, pNot_ap, pAnd_ap, pOr_ap, pVal_ap, pAndV_ap, pOrV_ap, pIte_ap, pChain_ap, pNo_ap, poNone_ap, poSome_ap, pSl_ap, pSeq_ap, mSeq_ap, pRng_ap, mRng_ap, pComp_ap, mComp_ap, pYes_ap, pMet_ap, mMet_ap, mMeth_ap, pIsi_ap, pGet2_ap, aNil_ap, aSlot_ap, aVal_ap, mCallIO_ap, mCall_ap, mCallP_ap, mCallPB_ap, oIsN_ap, oNotN_ap, oAdd_int, oSub_int, ipAdd_int, ipSub_int, oLt_int, oLe_int, oGt_int, oGe_int, oLt_str, oLe_str, oGt_str, oGe_str, oEq_int, oNe_int, oEq_bl, oNeg_int, oSubs_lst, oSubs_tup, oIx_lst, oIx_tup, oLen_lst, oLen_tup, oIn_str, oNotIn_str, seqOf_str, seqOf_tup, seqOf_lst, startS, RS.seq_nx, RS.seq_ret, RS.seq_brk, RS.seq_ct, RS.seq_err, RS.seq_bad, L2.DL.R.bind_ok, L2.DL.R.bind_err, L2.DL.R.bind_bad, rS_ok, rS_err, rS_bad, Option.bind_some, Option.bind_none, Option.map_some, Option.map_none, Option.join_some, gN, noOwn, noOwns, noObj, noObjs, noSh, noShs, frz, frzs, List.map_cons, List.map_nil, List.getElem?_cons_zero, List.getElem?_cons_succ, List.set_cons_zero, List.set_cons_succ, List.length_cons, List.length_nil, List.cons_append, List.nil_append, List.replicate, setS_nil, setS_cons, gsNil, gsCons, gTn, Bool.and_true, Bool.true_and, Bool.and_false, Bool.false_and, Bool.or_true, Bool.true_or, Bool.or_false, Bool.false_or, Bool.not_true, Bool.not_false, Bool.and_self, if_true, if_false, Bool.false_eq_true, reduceIte, decide_true, decide_false, callIO, callPB, gatherA, backA, List.take_succ_cons, List.take_zero, atI0, atI1, atI2, atI3, Nat.reduceAdd, Nat.reduceSub, Int.reduceLT, Int.reduceLE, Int.reduceNeg, Int.reduceAdd, Int.reduceSub, Int.reduceMul, Nat.reduceLT, Nat.reduceLeDiff, Int.reduceEq, Int.reduceBEq]
def shF (room part : List (List Nat)) : Row → Row := fun r => shareR room r part
theorem shF_len (room part : List (List Nat)) (r : Row) : (shF room part r).length = part.length := by simp only [shF, shareR, List.length_map]
theorem shared_loop {a b c : Option Val} {room part : List (List Nat)} (h : inAll part room = true) (hl : part.length ≤ 16777216) : ∀ (ps D : Dic) (x y z : Option Val), (∀ p ∈ ps, p.1.length = room.length) → D.length + ps.length ≤ 16777216 →
    ∃ x' y' z', forL [5, 6] (gTn 2 (gsCons gN (gsCons gN gsNil))) l1_shared (encT ps) [a, b, c, some (.lst true (encI (spots room part))), some (dV true D), x, y, z] = .nx [a, b, c, some (.lst true (encI (spots room part))), some (dV true (accD (shF room part) ps D)), x', y', z']
  | [], D, x, y, z, _, _ => ⟨x, y, z, rfl⟩
  | p :: ps, D, x, y, z, hp, hd => by
    simp only [List.length_cons] at hd
    have e1 := picked_call (hp p List.mem_cons_self).symm h hl true
    have e1 : callP m_picked [.tup (encI p.1), .lst true (encI (spots room part))] = some (.tup (encI (shF room part p.1))) := e1
    have pl := put_len D (shF room part p.1) (get0 D (shF room part p.1) + p.2)
    obtain ⟨x', y', z', ih⟩ := shared_loop (a := a) (b := b) (c := c) h hl ps (put D (shF room part p.1) (get0 D (shF room part p.1) + p.2)) (some (.tup (encI p.1))) (some (.int p.2)) (some (.tup (encI (shF room part p.1)))) (fun q hq => hp q (List.mem_cons_of_mem _ hq)) (by omega)
    have pw := putW_D (D := D) (r := shF room part p.1) (c := get0 D (shF room part p.1) + p.2) (by omega)
    refine ⟨x', y', z', ?_⟩
    rw [encT_c, forL, accD]
    simp only [sSeq_ap, sNil_ap, sIf_ap, sSet_ap, sRet_ap, sRetN_ap, sDrop_ap, sAsg_ap, sFor_ap, sAug_ap, sAugL_ap, sPut_ap, mT_ap, mTest_ap, mF_ap, mP_ap, mMove_ap, mFrz_ap, mFz_ap, sRaiseI_ap, mOp2_ap, mOp1_ap, mOpS_ap, mIx_ap, mIxL_ap, mIte_ap, mNot_ap, mAnd_ap, mOr_ap, mAndV_ap, mOrV_ap, msNil_ap, msCons_ap, psNil_ap, psCons_ap, pVar_ap, pC_ap, pOp1_ap, pOp2_ap, pOpS_ap, pTest_ap, pNot_ap, pAnd_ap, pOr_ap, pVal_ap, pAndV_ap, pOrV_ap, pIte_ap, pChain_ap, pNo_ap, poNone_ap, poSome_ap, pSl_ap, pSeq_ap, mSeq_ap, pRng_ap, mRng_ap, pComp_ap, mComp_ap, pYes_ap, pMet_ap, mMet_ap, mMeth_ap, pIsi_ap, pGet2_ap, aNil_ap, aSlot_ap, aVal_ap, mCallIO_ap, mCall_ap, mCallP_ap, mCallPB_ap, oIsN_ap, oNotN_ap, oAdd_int, oSub_int, ipAdd_int, ipSub_int, oLt_int, oLe_int, oGt_int, oGe_int, oLt_str, oLe_str, oGt_str, oGe_str, oEq_int, oNe_int, oEq_bl, oNeg_int, oSubs_lst, oSubs_tup, oIx_lst, oIx_tup, oLen_lst, oLen_tup, oIn_str, oNotIn_str, seqOf_str, seqOf_tup, seqOf_lst, startS, RS.seq_nx, RS.seq_ret, RS.seq_brk, RS.seq_ct, RS.seq_err, RS.seq_bad, L2.DL.R.bind_ok, L2.DL.R.bind_err, L2.DL.R.bind_bad, rS_ok, rS_err, rS_bad, Option.bind_some, Option.bind_none, Option.map_some, Option.map_none, Option.join_some, gN, noOwn, noOwns, noObj, noObjs, noSh, noShs, frz, frzs, List.map_cons, List.map_nil, List.getElem?_cons_zero, List.getElem?_cons_succ, List.set_cons_zero, List.set_cons_succ, List.length_cons, List.length_nil, List.cons_append, List.nil_append, List.replicate, setS_nil, setS_cons, gsNil, gsCons, gTn, Bool.and_true, Bool.true_and, Bool.and_false, Bool.false_and, Bool.or_true, Bool.true_or, Bool.or_false, Bool.false_or, Bool.not_true, Bool.not_false, Bool.and_self, if_true, if_false, Bool.false_eq_true, reduceIte, decide_true, decide_false, callIO, callPB, gatherA, backA, List.take_succ_cons, List.take_zero, atI0, atI1, atI2, atI3, Nat.reduceAdd, Nat.reduceSub, Int.reduceLT, Int.reduceLE, Int.reduceNeg, Int.reduceAdd, Int.reduceSub, Int.reduceMul, Nat.reduceLT, Nat.reduceLeDiff, Int.reduceEq, Int.reduceBEq, l1_shared, noOwns_I, e1, gGet_D, pw]
    exact ih
theorem shr_okKeys {f : Row → Row} {n : Nat} {ps : Dic} (h : ∀ r, (f r).length = n) : okKeys (accD f ps []) := acc_okKeys fun p _ => h p.1
theorem shr_len (f : Row → Row) (l : Dic) : (shr f l).length ≤ l.length := by
  have h1 := settle_len (D := accD f l [])
  have h2 := accD_len f l []
  simp only [List.length_nil] at h2
  unfold shr; omega
theorem shr_rows {f : Row → Row} {n : Nat} {l : Dic} (h : ∀ p ∈ l, (f p.1).length = n) : ∀ p ∈ shr f l, p.1.length = n := fun p hp => by
  obtain ⟨z1, _, _⟩ := mem_settle hp
  obtain ⟨z, hz, ez⟩ := List.mem_map.mp z1
  rw [← ez]
  exact accD_all (f := f) (P := fun r => r.length = n) l [] (fun _ h => by cases h) h z hz
theorem shared_spec {pv : Val} {room part : List (List Nat)} (P : PartV pv part) {l : Dic} (hr : ∀ p ∈ l, p.1.length = room.length) (hl : part.length ≤ 16777216) (h2 : l.length ≤ 16777216) (h : inAll part room = true) :
    m_shared [.tpz (encN room), .lst false (encT l), pv] = .ok (.lst true (encT (shr (shF room part) l))) := by
  unfold m_shared fnP g_shared
  have al := accD_len (shF room part) l []
  simp only [List.length_nil] at al
  obtain ⟨x', y', z', e⟩ := shared_loop (a := some (.tpz (encN room))) (b := some (.lst false (encT l))) (c := some pv) h hl l [] none none none hr (by simp only [List.length_nil]; omega)
  have sc := settled_call (o := true) (shr_okKeys (ps := l) (shF_len room part)) (by omega)
  have d0 : pDNewT = fun _ => some (dV true []) := rfl
  simp only [sSeq_ap, sNil_ap, sIf_ap, sSet_ap, sRet_ap, sRetN_ap, sDrop_ap, sAsg_ap, sFor_ap, sAug_ap, sAugL_ap, sPut_ap, mT_ap, mTest_ap, mF_ap, mP_ap, mMove_ap, mFrz_ap, mFz_ap, sRaiseI_ap, mOp2_ap, mOp1_ap, mOpS_ap, mIx_ap, mIxL_ap, mIte_ap, mNot_ap, mAnd_ap, mOr_ap, mAndV_ap, mOrV_ap, msNil_ap, msCons_ap, psNil_ap, psCons_ap, pVar_ap, pC_ap, pOp1_ap, pOp2_ap, pOpS_ap, pTest_ap, pNot_ap, pAnd_ap, pOr_ap, pVal_ap, pAndV_ap, pOrV_ap, pIte_ap, pChain_ap, pNo_ap, poNone_ap, poSome_ap, pSl_ap, pSeq_ap, mSeq_ap, pRng_ap, mRng_ap, pComp_ap, mComp_ap, pYes_ap, pMet_ap, mMet_ap, mMeth_ap, pIsi_ap, pGet2_ap, aNil_ap, aSlot_ap, aVal_ap, mCallIO_ap, mCall_ap, mCallP_ap, mCallPB_ap, oIsN_ap, oNotN_ap, oAdd_int, oSub_int, ipAdd_int, ipSub_int, oLt_int, oLe_int, oGt_int, oGe_int, oLt_str, oLe_str, oGt_str, oGe_str, oEq_int, oNe_int, oEq_bl, oNeg_int, oSubs_lst, oSubs_tup, oIx_lst, oIx_tup, oLen_lst, oLen_tup, oIn_str, oNotIn_str, seqOf_str, seqOf_tup, seqOf_lst, startS, RS.seq_nx, RS.seq_ret, RS.seq_brk, RS.seq_ct, RS.seq_err, RS.seq_bad, L2.DL.R.bind_ok, L2.DL.R.bind_err, L2.DL.R.bind_bad, rS_ok, rS_err, rS_bad, Option.bind_some, Option.bind_none, Option.map_some, Option.map_none, Option.join_some, gN, noOwn, noOwns, noObj, noObjs, noSh, noShs, frz, frzs, List.map_cons, List.map_nil, List.getElem?_cons_zero, List.getElem?_cons_succ, List.set_cons_zero, List.set_cons_succ, List.length_cons, List.length_nil, List.cons_append, List.nil_append, List.replicate, setS_nil, setS_cons, gsNil, gsCons, gTn, Bool.and_true, Bool.true_and, Bool.and_false, Bool.false_and, Bool.or_true, Bool.true_or, Bool.or_false, Bool.false_or, Bool.not_true, Bool.not_false, Bool.and_self, if_true, if_false, Bool.false_eq_true, reduceIte, decide_true, decide_false, callIO, callPB, gatherA, backA, List.take_succ_cons, List.take_zero, atI0, atI1, atI2, atI3, Nat.reduceAdd, Nat.reduceSub, Int.reduceLT, Int.reduceLE, Int.reduceNeg, Int.reduceAdd, Int.reduceSub, Int.reduceMul, Nat.reduceLT, Nat.reduceLeDiff, Int.reduceEq, Int.reduceBEq, noObjs_N, frzs_N, P.obj, P.fr, P.own, noOwns_N, places_specG P hl h, noShs_I, d0, noOwns_T, e, sc]
  rfl
theorem shared_fail {pv rv : Val} {room part : List (List Nat)} (P : PartV pv part) (R : PartV rv room) {w : Val} (h : inAll part room = false) : m_shared [rv, w, pv] = .err "BadRoom" none := by
  unfold m_shared fnP g_shared
  simp only [sSeq_ap, sNil_ap, sIf_ap, sSet_ap, sRet_ap, sRetN_ap, sDrop_ap, sAsg_ap, sFor_ap, sAug_ap, sAugL_ap, sPut_ap, mT_ap, mTest_ap, mF_ap, mP_ap, mMove_ap, mFrz_ap, mFz_ap, sRaiseI_ap, mOp2_ap, mOp1_ap, mOpS_ap, mIx_ap, mIxL_ap, mIte_ap, mNot_ap, mAnd_ap, mOr_ap, mAndV_ap, mOrV_ap, msNil_ap, msCons_ap, psNil_ap, psCons_ap, pVar_ap, pC_ap, pOp1_ap, pOp2_ap, pOpS_ap, pTest_ap, pNot_ap, pAnd_ap, pOr_ap, pVal_ap, pAndV_ap, pOrV_ap, pIte_ap, pChain_ap, pNo_ap, poNone_ap, poSome_ap, pSl_ap, pSeq_ap, mSeq_ap, pRng_ap, mRng_ap, pComp_ap, mComp_ap, pYes_ap, pMet_ap, mMet_ap, mMeth_ap, pIsi_ap, pGet2_ap, aNil_ap, aSlot_ap, aVal_ap, mCallIO_ap, mCall_ap, mCallP_ap, mCallPB_ap, oIsN_ap, oNotN_ap, oAdd_int, oSub_int, ipAdd_int, ipSub_int, oLt_int, oLe_int, oGt_int, oGe_int, oLt_str, oLe_str, oGt_str, oGe_str, oEq_int, oNe_int, oEq_bl, oNeg_int, oSubs_lst, oSubs_tup, oIx_lst, oIx_tup, oLen_lst, oLen_tup, oIn_str, oNotIn_str, seqOf_str, seqOf_tup, seqOf_lst, startS, RS.seq_nx, RS.seq_ret, RS.seq_brk, RS.seq_ct, RS.seq_err, RS.seq_bad, L2.DL.R.bind_ok, L2.DL.R.bind_err, L2.DL.R.bind_bad, rS_ok, rS_err, rS_bad, Option.bind_some, Option.bind_none, Option.map_some, Option.map_none, Option.join_some, gN, noOwn, noOwns, noObj, noObjs, noSh, noShs, frz, frzs, List.map_cons, List.map_nil, List.getElem?_cons_zero, List.getElem?_cons_succ, List.set_cons_zero, List.set_cons_succ, List.length_cons, List.length_nil, List.cons_append, List.nil_append, List.replicate, setS_nil, setS_cons, gsNil, gsCons, gTn, Bool.and_true, Bool.true_and, Bool.and_false, Bool.false_and, Bool.or_true, Bool.true_or, Bool.or_false, Bool.false_or, Bool.not_true, Bool.not_false, Bool.and_self, if_true, if_false, Bool.false_eq_true, reduceIte, decide_true, decide_false, callIO, callPB, gatherA, backA, List.take_succ_cons, List.take_zero, atI0, atI1, atI2, atI3, Nat.reduceAdd, Nat.reduceSub, Int.reduceLT, Int.reduceLE, Int.reduceNeg, Int.reduceAdd, Int.reduceSub, Int.reduceMul, Nat.reduceLT, Nat.reduceLeDiff, Int.reduceEq, Int.reduceBEq, P.obj, P.fr, P.own, R.obj, R.fr, R.own, places_fail P R h, plSh]
theorem told3_spec {pv : Val} {room part : List (List Nat)} (P : PartV pv part) {l : Dic} (hr : ∀ p ∈ l, p.1.length = room.length) (hl : part.length ≤ 16777216) (h2 : l.length ≤ 16777216) (h : inAll part room = true) :
    m_law_told_3 [.tpz (encN room), .lst false (encT l), pv] = .ok (.lst true (encT (shr (shF room part) l))) := by
  unfold m_law_told_3 fnP g_law_told_3
  simp only [sSeq_ap, sNil_ap, sIf_ap, sSet_ap, sRet_ap, sRetN_ap, sDrop_ap, sAsg_ap, sFor_ap, sAug_ap, sAugL_ap, sPut_ap, mT_ap, mTest_ap, mF_ap, mP_ap, mMove_ap, mFrz_ap, mFz_ap, sRaiseI_ap, mOp2_ap, mOp1_ap, mOpS_ap, mIx_ap, mIxL_ap, mIte_ap, mNot_ap, mAnd_ap, mOr_ap, mAndV_ap, mOrV_ap, msNil_ap, msCons_ap, psNil_ap, psCons_ap, pVar_ap, pC_ap, pOp1_ap, pOp2_ap, pOpS_ap, pTest_ap, pNot_ap, pAnd_ap, pOr_ap, pVal_ap, pAndV_ap, pOrV_ap, pIte_ap, pChain_ap, pNo_ap, poNone_ap, poSome_ap, pSl_ap, pSeq_ap, mSeq_ap, pRng_ap, mRng_ap, pComp_ap, mComp_ap, pYes_ap, pMet_ap, mMet_ap, mMeth_ap, pIsi_ap, pGet2_ap, aNil_ap, aSlot_ap, aVal_ap, mCallIO_ap, mCall_ap, mCallP_ap, mCallPB_ap, oIsN_ap, oNotN_ap, oAdd_int, oSub_int, ipAdd_int, ipSub_int, oLt_int, oLe_int, oGt_int, oGe_int, oLt_str, oLe_str, oGt_str, oGe_str, oEq_int, oNe_int, oEq_bl, oNeg_int, oSubs_lst, oSubs_tup, oIx_lst, oIx_tup, oLen_lst, oLen_tup, oIn_str, oNotIn_str, seqOf_str, seqOf_tup, seqOf_lst, startS, RS.seq_nx, RS.seq_ret, RS.seq_brk, RS.seq_ct, RS.seq_err, RS.seq_bad, L2.DL.R.bind_ok, L2.DL.R.bind_err, L2.DL.R.bind_bad, rS_ok, rS_err, rS_bad, Option.bind_some, Option.bind_none, Option.map_some, Option.map_none, Option.join_some, gN, noOwn, noOwns, noObj, noObjs, noSh, noShs, frz, frzs, List.map_cons, List.map_nil, List.getElem?_cons_zero, List.getElem?_cons_succ, List.set_cons_zero, List.set_cons_succ, List.length_cons, List.length_nil, List.cons_append, List.nil_append, List.replicate, setS_nil, setS_cons, gsNil, gsCons, gTn, Bool.and_true, Bool.true_and, Bool.and_false, Bool.false_and, Bool.or_true, Bool.true_or, Bool.or_false, Bool.false_or, Bool.not_true, Bool.not_false, Bool.and_self, if_true, if_false, Bool.false_eq_true, reduceIte, decide_true, decide_false, callIO, callPB, gatherA, backA, List.take_succ_cons, List.take_zero, atI0, atI1, atI2, atI3, Nat.reduceAdd, Nat.reduceSub, Int.reduceLT, Int.reduceLE, Int.reduceNeg, Int.reduceAdd, Int.reduceSub, Int.reduceMul, Nat.reduceLT, Nat.reduceLeDiff, Int.reduceEq, Int.reduceBEq, sTry, noOwns_N, noObjs_N, frzs_N, noOwns_T, noObjs_T, frzs_T, P.obj, P.fr, P.own, shared_spec P hr hl h2 h, noShs_T]
theorem told3_fail {pv rv : Val} {room part : List (List Nat)} (P : PartV pv part) (R : PartV rv room) {l : Dic} (h : inAll part room = false) : m_law_told_3 [rv, .lst false (encT l), pv] = .ok .non := by
  unfold m_law_told_3 fnP g_law_told_3
  have ex : excT [("BadRoom", true)] "BadRoom" = some true := rfl
  simp only [sSeq_ap, sNil_ap, sIf_ap, sSet_ap, sRet_ap, sRetN_ap, sDrop_ap, sAsg_ap, sFor_ap, sAug_ap, sAugL_ap, sPut_ap, mT_ap, mTest_ap, mF_ap, mP_ap, mMove_ap, mFrz_ap, mFz_ap, sRaiseI_ap, mOp2_ap, mOp1_ap, mOpS_ap, mIx_ap, mIxL_ap, mIte_ap, mNot_ap, mAnd_ap, mOr_ap, mAndV_ap, mOrV_ap, msNil_ap, msCons_ap, psNil_ap, psCons_ap, pVar_ap, pC_ap, pOp1_ap, pOp2_ap, pOpS_ap, pTest_ap, pNot_ap, pAnd_ap, pOr_ap, pVal_ap, pAndV_ap, pOrV_ap, pIte_ap, pChain_ap, pNo_ap, poNone_ap, poSome_ap, pSl_ap, pSeq_ap, mSeq_ap, pRng_ap, mRng_ap, pComp_ap, mComp_ap, pYes_ap, pMet_ap, mMet_ap, mMeth_ap, pIsi_ap, pGet2_ap, aNil_ap, aSlot_ap, aVal_ap, mCallIO_ap, mCall_ap, mCallP_ap, mCallPB_ap, oIsN_ap, oNotN_ap, oAdd_int, oSub_int, ipAdd_int, ipSub_int, oLt_int, oLe_int, oGt_int, oGe_int, oLt_str, oLe_str, oGt_str, oGe_str, oEq_int, oNe_int, oEq_bl, oNeg_int, oSubs_lst, oSubs_tup, oIx_lst, oIx_tup, oLen_lst, oLen_tup, oIn_str, oNotIn_str, seqOf_str, seqOf_tup, seqOf_lst, startS, RS.seq_nx, RS.seq_ret, RS.seq_brk, RS.seq_ct, RS.seq_err, RS.seq_bad, L2.DL.R.bind_ok, L2.DL.R.bind_err, L2.DL.R.bind_bad, rS_ok, rS_err, rS_bad, Option.bind_some, Option.bind_none, Option.map_some, Option.map_none, Option.join_some, gN, noOwn, noOwns, noObj, noObjs, noSh, noShs, frz, frzs, List.map_cons, List.map_nil, List.getElem?_cons_zero, List.getElem?_cons_succ, List.set_cons_zero, List.set_cons_succ, List.length_cons, List.length_nil, List.cons_append, List.nil_append, List.replicate, setS_nil, setS_cons, gsNil, gsCons, gTn, Bool.and_true, Bool.true_and, Bool.and_false, Bool.false_and, Bool.or_true, Bool.true_or, Bool.or_false, Bool.false_or, Bool.not_true, Bool.not_false, Bool.and_self, if_true, if_false, Bool.false_eq_true, reduceIte, decide_true, decide_false, callIO, callPB, gatherA, backA, List.take_succ_cons, List.take_zero, atI0, atI1, atI2, atI3, Nat.reduceAdd, Nat.reduceSub, Int.reduceLT, Int.reduceLE, Int.reduceNeg, Int.reduceAdd, Int.reduceSub, Int.reduceMul, Nat.reduceLT, Nat.reduceLeDiff, Int.reduceEq, Int.reduceBEq, sTry, hdRun, nES, ex, R.own, R.obj, R.fr, noOwns_T, noObjs_T, frzs_T, P.obj, P.fr, P.own, shared_fail P R h, plSh]
/-! ### the law's own share -/
theorem portion_loop {b : Option Val} {room part : List (List Nat)} (h : inAll part room = true) (hl : part.length ≤ 16777216) : ∀ (ps D : Dic) (x y z : Option Val), (∀ p ∈ ps, p.1.length = room.length) → D.length + ps.length ≤ 16777216 →
    ∃ x' y' z', forL [4, 5] (gTn 2 (gsCons gN (gsCons gN gsNil))) l1_law_portion (encT ps) [some (.tpz (encN room)), b, some (.tpz (encN part)), some (dV true D), x, y, z] = .nx [some (.tpz (encN room)), b, some (.tpz (encN part)), some (dV true (accD (shF room part) ps D)), x', y', z']
  | [], D, x, y, z, _, _ => ⟨x, y, z, rfl⟩
  | p :: ps, D, x, y, z, hp, hd => by
    simp only [List.length_cons] at hd
    have e1 : callP m_law_row_of [.tpz (encN room), .tup (encI p.1), .tpz (encN part)] = some (.tup (encI (shF room part p.1))) := row_of_call (hp p List.mem_cons_self).symm h hl
    have pl := put_len D (shF room part p.1) (get0 D (shF room part p.1) + p.2)
    obtain ⟨x', y', z', ih⟩ := portion_loop (b := b) h hl ps (put D (shF room part p.1) (get0 D (shF room part p.1) + p.2)) (some (.tup (encI p.1))) (some (.int p.2)) (some (.tup (encI (shF room part p.1)))) (fun q hq => hp q (List.mem_cons_of_mem _ hq)) (by omega)
    have pw := putW_D (D := D) (r := shF room part p.1) (c := get0 D (shF room part p.1) + p.2) (by omega)
    refine ⟨x', y', z', ?_⟩
    rw [encT_c, forL, accD]
    simp only [sSeq_ap, sNil_ap, sIf_ap, sSet_ap, sRet_ap, sRetN_ap, sDrop_ap, sAsg_ap, sFor_ap, sAug_ap, sAugL_ap, sPut_ap, mT_ap, mTest_ap, mF_ap, mP_ap, mMove_ap, mFrz_ap, mFz_ap, sRaiseI_ap, mOp2_ap, mOp1_ap, mOpS_ap, mIx_ap, mIxL_ap, mIte_ap, mNot_ap, mAnd_ap, mOr_ap, mAndV_ap, mOrV_ap, msNil_ap, msCons_ap, psNil_ap, psCons_ap, pVar_ap, pC_ap, pOp1_ap, pOp2_ap, pOpS_ap, pTest_ap, pNot_ap, pAnd_ap, pOr_ap, pVal_ap, pAndV_ap, pOrV_ap, pIte_ap, pChain_ap, pNo_ap, poNone_ap, poSome_ap, pSl_ap, pSeq_ap, mSeq_ap, pRng_ap, mRng_ap, pComp_ap, mComp_ap, pYes_ap, pMet_ap, mMet_ap, mMeth_ap, pIsi_ap, pGet2_ap, aNil_ap, aSlot_ap, aVal_ap, mCallIO_ap, mCall_ap, mCallP_ap, mCallPB_ap, oIsN_ap, oNotN_ap, oAdd_int, oSub_int, ipAdd_int, ipSub_int, oLt_int, oLe_int, oGt_int, oGe_int, oLt_str, oLe_str, oGt_str, oGe_str, oEq_int, oNe_int, oEq_bl, oNeg_int, oSubs_lst, oSubs_tup, oIx_lst, oIx_tup, oLen_lst, oLen_tup, oIn_str, oNotIn_str, seqOf_str, seqOf_tup, seqOf_lst, startS, RS.seq_nx, RS.seq_ret, RS.seq_brk, RS.seq_ct, RS.seq_err, RS.seq_bad, L2.DL.R.bind_ok, L2.DL.R.bind_err, L2.DL.R.bind_bad, rS_ok, rS_err, rS_bad, Option.bind_some, Option.bind_none, Option.map_some, Option.map_none, Option.join_some, gN, noOwn, noOwns, noObj, noObjs, noSh, noShs, frz, frzs, List.map_cons, List.map_nil, List.getElem?_cons_zero, List.getElem?_cons_succ, List.set_cons_zero, List.set_cons_succ, List.length_cons, List.length_nil, List.cons_append, List.nil_append, List.replicate, setS_nil, setS_cons, gsNil, gsCons, gTn, Bool.and_true, Bool.true_and, Bool.and_false, Bool.false_and, Bool.or_true, Bool.true_or, Bool.or_false, Bool.false_or, Bool.not_true, Bool.not_false, Bool.and_self, if_true, if_false, Bool.false_eq_true, reduceIte, decide_true, decide_false, callIO, callPB, gatherA, backA, List.take_succ_cons, List.take_zero, atI0, atI1, atI2, atI3, Nat.reduceAdd, Nat.reduceSub, Int.reduceLT, Int.reduceLE, Int.reduceNeg, Int.reduceAdd, Int.reduceSub, Int.reduceMul, Nat.reduceLT, Nat.reduceLeDiff, Int.reduceEq, Int.reduceBEq, l1_law_portion, noOwns_I, e1, gGet_D, pw]
    exact ih
theorem portion_call {room part : List (List Nat)} {l : Dic} (hr : ∀ p ∈ l, p.1.length = room.length) (hl : part.length ≤ 16777216) (h2 : l.length ≤ 16777216) (h : inAll part room = true) (o : Bool) :
    callP m_law_portion [.tpz (encN room), .lst o (encT l), .tpz (encN part)] = some (.lst true (encT (shr (shF room part) l))) := by
  have e : m_law_portion [.tpz (encN room), .lst false (encT l), .tpz (encN part)] = .ok (.lst true (encT (shr (shF room part) l))) := by
    unfold m_law_portion fnP g_law_portion
    have al := accD_len (shF room part) l []
    simp only [List.length_nil] at al
    obtain ⟨x', y', z', e⟩ := portion_loop (b := some (.lst false (encT l))) h hl l [] none none none hr (by simp only [List.length_nil]; omega)
    have sc := settled_call (o := true) (shr_okKeys (ps := l) (shF_len room part)) (by omega)
    have d0 : pDNewT = fun _ => some (dV true []) := rfl
    simp only [sSeq_ap, sNil_ap, sIf_ap, sSet_ap, sRet_ap, sRetN_ap, sDrop_ap, sAsg_ap, sFor_ap, sAug_ap, sAugL_ap, sPut_ap, mT_ap, mTest_ap, mF_ap, mP_ap, mMove_ap, mFrz_ap, mFz_ap, sRaiseI_ap, mOp2_ap, mOp1_ap, mOpS_ap, mIx_ap, mIxL_ap, mIte_ap, mNot_ap, mAnd_ap, mOr_ap, mAndV_ap, mOrV_ap, msNil_ap, msCons_ap, psNil_ap, psCons_ap, pVar_ap, pC_ap, pOp1_ap, pOp2_ap, pOpS_ap, pTest_ap, pNot_ap, pAnd_ap, pOr_ap, pVal_ap, pAndV_ap, pOrV_ap, pIte_ap, pChain_ap, pNo_ap, poNone_ap, poSome_ap, pSl_ap, pSeq_ap, mSeq_ap, pRng_ap, mRng_ap, pComp_ap, mComp_ap, pYes_ap, pMet_ap, mMet_ap, mMeth_ap, pIsi_ap, pGet2_ap, aNil_ap, aSlot_ap, aVal_ap, mCallIO_ap, mCall_ap, mCallP_ap, mCallPB_ap, oIsN_ap, oNotN_ap, oAdd_int, oSub_int, ipAdd_int, ipSub_int, oLt_int, oLe_int, oGt_int, oGe_int, oLt_str, oLe_str, oGt_str, oGe_str, oEq_int, oNe_int, oEq_bl, oNeg_int, oSubs_lst, oSubs_tup, oIx_lst, oIx_tup, oLen_lst, oLen_tup, oIn_str, oNotIn_str, seqOf_str, seqOf_tup, seqOf_lst, startS, RS.seq_nx, RS.seq_ret, RS.seq_brk, RS.seq_ct, RS.seq_err, RS.seq_bad, L2.DL.R.bind_ok, L2.DL.R.bind_err, L2.DL.R.bind_bad, rS_ok, rS_err, rS_bad, Option.bind_some, Option.bind_none, Option.map_some, Option.map_none, Option.join_some, gN, noOwn, noOwns, noObj, noObjs, noSh, noShs, frz, frzs, List.map_cons, List.map_nil, List.getElem?_cons_zero, List.getElem?_cons_succ, List.set_cons_zero, List.set_cons_succ, List.length_cons, List.length_nil, List.cons_append, List.nil_append, List.replicate, setS_nil, setS_cons, gsNil, gsCons, gTn, Bool.and_true, Bool.true_and, Bool.and_false, Bool.false_and, Bool.or_true, Bool.true_or, Bool.or_false, Bool.false_or, Bool.not_true, Bool.not_false, Bool.and_self, if_true, if_false, Bool.false_eq_true, reduceIte, decide_true, decide_false, callIO, callPB, gatherA, backA, List.take_succ_cons, List.take_zero, atI0, atI1, atI2, atI3, Nat.reduceAdd, Nat.reduceSub, Int.reduceLT, Int.reduceLE, Int.reduceNeg, Int.reduceAdd, Int.reduceSub, Int.reduceMul, Nat.reduceLT, Nat.reduceLeDiff, Int.reduceEq, Int.reduceBEq, d0, noOwns_T, e, sc]
    rfl
  simp only [callP, noObjs, noObj, noObjs_N, noObjs_T, frzs, frz, frzs_N, frzs_T, e, noSh, noShs_T, sSeq_ap, sNil_ap, sIf_ap, sSet_ap, sRet_ap, sRetN_ap, sDrop_ap, sAsg_ap, sFor_ap, sAug_ap, sAugL_ap, sPut_ap, mT_ap, mTest_ap, mF_ap, mP_ap, mMove_ap, mFrz_ap, mFz_ap, sRaiseI_ap, mOp2_ap, mOp1_ap, mOpS_ap, mIx_ap, mIxL_ap, mIte_ap, mNot_ap, mAnd_ap, mOr_ap, mAndV_ap, mOrV_ap, msNil_ap, msCons_ap, psNil_ap, psCons_ap, pVar_ap, pC_ap, pOp1_ap, pOp2_ap, pOpS_ap, pTest_ap, pNot_ap, pAnd_ap, pOr_ap, pVal_ap, pAndV_ap, pOrV_ap, pIte_ap, pChain_ap, pNo_ap, poNone_ap, poSome_ap, pSl_ap, pSeq_ap, mSeq_ap, pRng_ap, mRng_ap, pComp_ap, mComp_ap, pYes_ap, pMet_ap, mMet_ap, mMeth_ap, pIsi_ap, pGet2_ap, aNil_ap, aSlot_ap, aVal_ap, mCallIO_ap, mCall_ap, mCallP_ap, mCallPB_ap, oIsN_ap, oNotN_ap, oAdd_int, oSub_int, ipAdd_int, ipSub_int, oLt_int, oLe_int, oGt_int, oGe_int, oLt_str, oLe_str, oGt_str, oGe_str, oEq_int, oNe_int, oEq_bl, oNeg_int, oSubs_lst, oSubs_tup, oIx_lst, oIx_tup, oLen_lst, oLen_tup, oIn_str, oNotIn_str, seqOf_str, seqOf_tup, seqOf_lst, startS, RS.seq_nx, RS.seq_ret, RS.seq_brk, RS.seq_ct, RS.seq_err, RS.seq_bad, L2.DL.R.bind_ok, L2.DL.R.bind_err, L2.DL.R.bind_bad, rS_ok, rS_err, rS_bad, Option.bind_some, Option.bind_none, Option.map_some, Option.map_none, Option.join_some, gN, noOwn, noOwns, noObj, noObjs, noSh, noShs, frz, frzs, List.map_cons, List.map_nil, List.getElem?_cons_zero, List.getElem?_cons_succ, List.set_cons_zero, List.set_cons_succ, List.length_cons, List.length_nil, List.cons_append, List.nil_append, List.replicate, setS_nil, setS_cons, gsNil, gsCons, gTn, Bool.and_true, Bool.true_and, Bool.and_false, Bool.false_and, Bool.or_true, Bool.true_or, Bool.or_false, Bool.false_or, Bool.not_true, Bool.not_false, Bool.and_self, if_true, if_false, Bool.false_eq_true, reduceIte, decide_true, decide_false, callIO, callPB, gatherA, backA, List.take_succ_cons, List.take_zero, atI0, atI1, atI2, atI3, Nat.reduceAdd, Nat.reduceSub, Int.reduceLT, Int.reduceLE, Int.reduceNeg, Int.reduceAdd, Int.reduceSub, Int.reduceMul, Nat.reduceLT, Nat.reduceLeDiff, Int.reduceEq, Int.reduceBEq]
/-! ### tallies added, counted -/
theorem counted_loop {a : Option Val} : ∀ (ps D : Dic) (x y : Option Val), D.length + ps.length ≤ 16777216 →
    ∃ x' y', forL [2, 3] (gTn 2 (gsCons gN (gsCons gN gsNil))) l1_counted (encT ps) [a, some (dV true D), x, y] = .nx [a, some (dV true (ps.foldl (fun D p => put D p.1 p.2) D)), x', y']
  | [], D, x, y, _ => ⟨x, y, rfl⟩
  | p :: ps, D, x, y, hd => by
    simp only [List.length_cons] at hd
    have pl := put_len D p.1 p.2
    obtain ⟨x', y', ih⟩ := counted_loop (a := a) ps (put D p.1 p.2) (some (.tup (encI p.1))) (some (.int p.2)) (by omega)
    have pw := putW_D (D := D) (r := p.1) (c := p.2) (by omega)
    refine ⟨x', y', ?_⟩
    rw [encT_c, forL, List.foldl_cons]
    simp only [sSeq_ap, sNil_ap, sIf_ap, sSet_ap, sRet_ap, sRetN_ap, sDrop_ap, sAsg_ap, sFor_ap, sAug_ap, sAugL_ap, sPut_ap, mT_ap, mTest_ap, mF_ap, mP_ap, mMove_ap, mFrz_ap, mFz_ap, sRaiseI_ap, mOp2_ap, mOp1_ap, mOpS_ap, mIx_ap, mIxL_ap, mIte_ap, mNot_ap, mAnd_ap, mOr_ap, mAndV_ap, mOrV_ap, msNil_ap, msCons_ap, psNil_ap, psCons_ap, pVar_ap, pC_ap, pOp1_ap, pOp2_ap, pOpS_ap, pTest_ap, pNot_ap, pAnd_ap, pOr_ap, pVal_ap, pAndV_ap, pOrV_ap, pIte_ap, pChain_ap, pNo_ap, poNone_ap, poSome_ap, pSl_ap, pSeq_ap, mSeq_ap, pRng_ap, mRng_ap, pComp_ap, mComp_ap, pYes_ap, pMet_ap, mMet_ap, mMeth_ap, pIsi_ap, pGet2_ap, aNil_ap, aSlot_ap, aVal_ap, mCallIO_ap, mCall_ap, mCallP_ap, mCallPB_ap, oIsN_ap, oNotN_ap, oAdd_int, oSub_int, ipAdd_int, ipSub_int, oLt_int, oLe_int, oGt_int, oGe_int, oLt_str, oLe_str, oGt_str, oGe_str, oEq_int, oNe_int, oEq_bl, oNeg_int, oSubs_lst, oSubs_tup, oIx_lst, oIx_tup, oLen_lst, oLen_tup, oIn_str, oNotIn_str, seqOf_str, seqOf_tup, seqOf_lst, startS, RS.seq_nx, RS.seq_ret, RS.seq_brk, RS.seq_ct, RS.seq_err, RS.seq_bad, L2.DL.R.bind_ok, L2.DL.R.bind_err, L2.DL.R.bind_bad, rS_ok, rS_err, rS_bad, Option.bind_some, Option.bind_none, Option.map_some, Option.map_none, Option.join_some, gN, noOwn, noOwns, noObj, noObjs, noSh, noShs, frz, frzs, List.map_cons, List.map_nil, List.getElem?_cons_zero, List.getElem?_cons_succ, List.set_cons_zero, List.set_cons_succ, List.length_cons, List.length_nil, List.cons_append, List.nil_append, List.replicate, setS_nil, setS_cons, gsNil, gsCons, gTn, Bool.and_true, Bool.true_and, Bool.and_false, Bool.false_and, Bool.or_true, Bool.true_or, Bool.or_false, Bool.false_or, Bool.not_true, Bool.not_false, Bool.and_self, if_true, if_false, Bool.false_eq_true, reduceIte, decide_true, decide_false, callIO, callPB, gatherA, backA, List.take_succ_cons, List.take_zero, atI0, atI1, atI2, atI3, Nat.reduceAdd, Nat.reduceSub, Int.reduceLT, Int.reduceLE, Int.reduceNeg, Int.reduceAdd, Int.reduceSub, Int.reduceMul, Nat.reduceLT, Nat.reduceLeDiff, Int.reduceEq, Int.reduceBEq, l1_counted, noOwns_I, pw]
    exact ih
theorem counted_spec {l : Dic} (h2 : l.length ≤ 16777216) : m_counted [.lst false (encT l)] = .ok (dV true (cntd l)) := by
  unfold m_counted fnP g_counted
  obtain ⟨x', y', e⟩ := counted_loop (a := some (.lst false (encT l))) l [] none none (by simp only [List.length_nil]; omega)
  have d0 : pDNewT = fun _ => some (dV true []) := rfl
  simp only [sSeq_ap, sNil_ap, sIf_ap, sSet_ap, sRet_ap, sRetN_ap, sDrop_ap, sAsg_ap, sFor_ap, sAug_ap, sAugL_ap, sPut_ap, mT_ap, mTest_ap, mF_ap, mP_ap, mMove_ap, mFrz_ap, mFz_ap, sRaiseI_ap, mOp2_ap, mOp1_ap, mOpS_ap, mIx_ap, mIxL_ap, mIte_ap, mNot_ap, mAnd_ap, mOr_ap, mAndV_ap, mOrV_ap, msNil_ap, msCons_ap, psNil_ap, psCons_ap, pVar_ap, pC_ap, pOp1_ap, pOp2_ap, pOpS_ap, pTest_ap, pNot_ap, pAnd_ap, pOr_ap, pVal_ap, pAndV_ap, pOrV_ap, pIte_ap, pChain_ap, pNo_ap, poNone_ap, poSome_ap, pSl_ap, pSeq_ap, mSeq_ap, pRng_ap, mRng_ap, pComp_ap, mComp_ap, pYes_ap, pMet_ap, mMet_ap, mMeth_ap, pIsi_ap, pGet2_ap, aNil_ap, aSlot_ap, aVal_ap, mCallIO_ap, mCall_ap, mCallP_ap, mCallPB_ap, oIsN_ap, oNotN_ap, oAdd_int, oSub_int, ipAdd_int, ipSub_int, oLt_int, oLe_int, oGt_int, oGe_int, oLt_str, oLe_str, oGt_str, oGe_str, oEq_int, oNe_int, oEq_bl, oNeg_int, oSubs_lst, oSubs_tup, oIx_lst, oIx_tup, oLen_lst, oLen_tup, oIn_str, oNotIn_str, seqOf_str, seqOf_tup, seqOf_lst, startS, RS.seq_nx, RS.seq_ret, RS.seq_brk, RS.seq_ct, RS.seq_err, RS.seq_bad, L2.DL.R.bind_ok, L2.DL.R.bind_err, L2.DL.R.bind_bad, rS_ok, rS_err, rS_bad, Option.bind_some, Option.bind_none, Option.map_some, Option.map_none, Option.join_some, gN, noOwn, noOwns, noObj, noObjs, noSh, noShs, frz, frzs, List.map_cons, List.map_nil, List.getElem?_cons_zero, List.getElem?_cons_succ, List.set_cons_zero, List.set_cons_succ, List.length_cons, List.length_nil, List.cons_append, List.nil_append, List.replicate, setS_nil, setS_cons, gsNil, gsCons, gTn, Bool.and_true, Bool.true_and, Bool.and_false, Bool.false_and, Bool.or_true, Bool.true_or, Bool.or_false, Bool.false_or, Bool.not_true, Bool.not_false, Bool.and_self, if_true, if_false, Bool.false_eq_true, reduceIte, decide_true, decide_false, callIO, callPB, gatherA, backA, List.take_succ_cons, List.take_zero, atI0, atI1, atI2, atI3, Nat.reduceAdd, Nat.reduceSub, Int.reduceLT, Int.reduceLE, Int.reduceNeg, Int.reduceAdd, Int.reduceSub, Int.reduceMul, Nat.reduceLT, Nat.reduceLeDiff, Int.reduceEq, Int.reduceBEq, d0, noOwns_T, e]
  rfl
theorem counted_call {o : Bool} {l : Dic} (h2 : l.length ≤ 16777216) : callP m_counted [.lst o (encT l)] = some (dV true (cntd l)) := by
  simp only [callP, noObjs, noObj, noObjs_T, frzs, frz, frzs_T, counted_spec h2, noSh_D, sSeq_ap, sNil_ap, sIf_ap, sSet_ap, sRet_ap, sRetN_ap, sDrop_ap, sAsg_ap, sFor_ap, sAug_ap, sAugL_ap, sPut_ap, mT_ap, mTest_ap, mF_ap, mP_ap, mMove_ap, mFrz_ap, mFz_ap, sRaiseI_ap, mOp2_ap, mOp1_ap, mOpS_ap, mIx_ap, mIxL_ap, mIte_ap, mNot_ap, mAnd_ap, mOr_ap, mAndV_ap, mOrV_ap, msNil_ap, msCons_ap, psNil_ap, psCons_ap, pVar_ap, pC_ap, pOp1_ap, pOp2_ap, pOpS_ap, pTest_ap, pNot_ap, pAnd_ap, pOr_ap, pVal_ap, pAndV_ap, pOrV_ap, pIte_ap, pChain_ap, pNo_ap, poNone_ap, poSome_ap, pSl_ap, pSeq_ap, mSeq_ap, pRng_ap, mRng_ap, pComp_ap, mComp_ap, pYes_ap, pMet_ap, mMet_ap, mMeth_ap, pIsi_ap, pGet2_ap, aNil_ap, aSlot_ap, aVal_ap, mCallIO_ap, mCall_ap, mCallP_ap, mCallPB_ap, oIsN_ap, oNotN_ap, oAdd_int, oSub_int, ipAdd_int, ipSub_int, oLt_int, oLe_int, oGt_int, oGe_int, oLt_str, oLe_str, oGt_str, oGe_str, oEq_int, oNe_int, oEq_bl, oNeg_int, oSubs_lst, oSubs_tup, oIx_lst, oIx_tup, oLen_lst, oLen_tup, oIn_str, oNotIn_str, seqOf_str, seqOf_tup, seqOf_lst, startS, RS.seq_nx, RS.seq_ret, RS.seq_brk, RS.seq_ct, RS.seq_err, RS.seq_bad, L2.DL.R.bind_ok, L2.DL.R.bind_err, L2.DL.R.bind_bad, rS_ok, rS_err, rS_bad, Option.bind_some, Option.bind_none, Option.map_some, Option.map_none, Option.join_some, gN, noOwn, noOwns, noObj, noObjs, noSh, noShs, frz, frzs, List.map_cons, List.map_nil, List.getElem?_cons_zero, List.getElem?_cons_succ, List.set_cons_zero, List.set_cons_succ, List.length_cons, List.length_nil, List.cons_append, List.nil_append, List.replicate, setS_nil, setS_cons, gsNil, gsCons, gTn, Bool.and_true, Bool.true_and, Bool.and_false, Bool.false_and, Bool.or_true, Bool.true_or, Bool.or_false, Bool.false_or, Bool.not_true, Bool.not_false, Bool.and_self, if_true, if_false, Bool.false_eq_true, reduceIte, decide_true, decide_false, callIO, callPB, gatherA, backA, List.take_succ_cons, List.take_zero, atI0, atI1, atI2, atI3, Nat.reduceAdd, Nat.reduceSub, Int.reduceLT, Int.reduceLE, Int.reduceNeg, Int.reduceAdd, Int.reduceSub, Int.reduceMul, Nat.reduceLT, Nat.reduceLeDiff, Int.reduceEq, Int.reduceBEq]
theorem plus_loop {a b : Option Val} : ∀ (ps D : Dic) (x y : Option Val), D.length + ps.length ≤ 16777216 →
    ∃ x' y', forL [3, 4] (gTn 2 (gsCons gN (gsCons gN gsNil))) l1_plus (encT ps) [a, b, some (dV true D), x, y] = .nx [a, b, some (dV true (accD id ps D)), x', y']
  | [], D, x, y, _ => ⟨x, y, rfl⟩
  | p :: ps, D, x, y, hd => by
    simp only [List.length_cons] at hd
    have pl := put_len D p.1 (get0 D p.1 + p.2)
    obtain ⟨x', y', ih⟩ := plus_loop (a := a) (b := b) ps (put D p.1 (get0 D p.1 + p.2)) (some (.tup (encI p.1))) (some (.int p.2)) (by omega)
    have pw := putW_D (D := D) (r := p.1) (c := get0 D p.1 + p.2) (by omega)
    refine ⟨x', y', ?_⟩
    rw [encT_c, forL, accD]
    simp only [sSeq_ap, sNil_ap, sIf_ap, sSet_ap, sRet_ap, sRetN_ap, sDrop_ap, sAsg_ap, sFor_ap, sAug_ap, sAugL_ap, sPut_ap, mT_ap, mTest_ap, mF_ap, mP_ap, mMove_ap, mFrz_ap, mFz_ap, sRaiseI_ap, mOp2_ap, mOp1_ap, mOpS_ap, mIx_ap, mIxL_ap, mIte_ap, mNot_ap, mAnd_ap, mOr_ap, mAndV_ap, mOrV_ap, msNil_ap, msCons_ap, psNil_ap, psCons_ap, pVar_ap, pC_ap, pOp1_ap, pOp2_ap, pOpS_ap, pTest_ap, pNot_ap, pAnd_ap, pOr_ap, pVal_ap, pAndV_ap, pOrV_ap, pIte_ap, pChain_ap, pNo_ap, poNone_ap, poSome_ap, pSl_ap, pSeq_ap, mSeq_ap, pRng_ap, mRng_ap, pComp_ap, mComp_ap, pYes_ap, pMet_ap, mMet_ap, mMeth_ap, pIsi_ap, pGet2_ap, aNil_ap, aSlot_ap, aVal_ap, mCallIO_ap, mCall_ap, mCallP_ap, mCallPB_ap, oIsN_ap, oNotN_ap, oAdd_int, oSub_int, ipAdd_int, ipSub_int, oLt_int, oLe_int, oGt_int, oGe_int, oLt_str, oLe_str, oGt_str, oGe_str, oEq_int, oNe_int, oEq_bl, oNeg_int, oSubs_lst, oSubs_tup, oIx_lst, oIx_tup, oLen_lst, oLen_tup, oIn_str, oNotIn_str, seqOf_str, seqOf_tup, seqOf_lst, startS, RS.seq_nx, RS.seq_ret, RS.seq_brk, RS.seq_ct, RS.seq_err, RS.seq_bad, L2.DL.R.bind_ok, L2.DL.R.bind_err, L2.DL.R.bind_bad, rS_ok, rS_err, rS_bad, Option.bind_some, Option.bind_none, Option.map_some, Option.map_none, Option.join_some, gN, noOwn, noOwns, noObj, noObjs, noSh, noShs, frz, frzs, List.map_cons, List.map_nil, List.getElem?_cons_zero, List.getElem?_cons_succ, List.set_cons_zero, List.set_cons_succ, List.length_cons, List.length_nil, List.cons_append, List.nil_append, List.replicate, setS_nil, setS_cons, gsNil, gsCons, gTn, Bool.and_true, Bool.true_and, Bool.and_false, Bool.false_and, Bool.or_true, Bool.true_or, Bool.or_false, Bool.false_or, Bool.not_true, Bool.not_false, Bool.and_self, if_true, if_false, Bool.false_eq_true, reduceIte, decide_true, decide_false, callIO, callPB, gatherA, backA, List.take_succ_cons, List.take_zero, atI0, atI1, atI2, atI3, Nat.reduceAdd, Nat.reduceSub, Int.reduceLT, Int.reduceLE, Int.reduceNeg, Int.reduceAdd, Int.reduceSub, Int.reduceMul, Nat.reduceLT, Nat.reduceLeDiff, Int.reduceEq, Int.reduceBEq, l1_plus, noOwns_I, gGet_D, pw]
    exact ih
theorem plus_spec {a b : Dic} {n : Nat} (ta : Tal a) (ra : ∀ p ∈ a, p.1.length = n) (rb : ∀ p ∈ b, p.1.length = n) (ha : a.length + b.length ≤ 16777216) : m_plus [.lst false (encT a), .lst false (encT b)] = .ok (.lst true (encT (pls a b))) := by
  unfold m_plus fnP g_plus
  have ce := cntd_eq ta.nd
  have al := accD_len id b (cntd a)
  obtain ⟨x', y', e⟩ := plus_loop (a := some (.lst false (encT a))) (b := some (.lst false (encT b))) b (cntd a) none none (by rw [ce]; omega)
  have ok : okKeys (accD id b (cntd a)) := okKeys_of (accD_nodup id b _ (cntd_nodup a)) fun p hp => accD_all (P := fun r => r.length = n) b (cntd a) (by rw [ce]; exact ra) rb p hp
  have sc := settled_call (o := true) ok (by rw [ce] at al; rw [ce]; omega)
  simp only [sSeq_ap, sNil_ap, sIf_ap, sSet_ap, sRet_ap, sRetN_ap, sDrop_ap, sAsg_ap, sFor_ap, sAug_ap, sAugL_ap, sPut_ap, mT_ap, mTest_ap, mF_ap, mP_ap, mMove_ap, mFrz_ap, mFz_ap, sRaiseI_ap, mOp2_ap, mOp1_ap, mOpS_ap, mIx_ap, mIxL_ap, mIte_ap, mNot_ap, mAnd_ap, mOr_ap, mAndV_ap, mOrV_ap, msNil_ap, msCons_ap, psNil_ap, psCons_ap, pVar_ap, pC_ap, pOp1_ap, pOp2_ap, pOpS_ap, pTest_ap, pNot_ap, pAnd_ap, pOr_ap, pVal_ap, pAndV_ap, pOrV_ap, pIte_ap, pChain_ap, pNo_ap, poNone_ap, poSome_ap, pSl_ap, pSeq_ap, mSeq_ap, pRng_ap, mRng_ap, pComp_ap, mComp_ap, pYes_ap, pMet_ap, mMet_ap, mMeth_ap, pIsi_ap, pGet2_ap, aNil_ap, aSlot_ap, aVal_ap, mCallIO_ap, mCall_ap, mCallP_ap, mCallPB_ap, oIsN_ap, oNotN_ap, oAdd_int, oSub_int, ipAdd_int, ipSub_int, oLt_int, oLe_int, oGt_int, oGe_int, oLt_str, oLe_str, oGt_str, oGe_str, oEq_int, oNe_int, oEq_bl, oNeg_int, oSubs_lst, oSubs_tup, oIx_lst, oIx_tup, oLen_lst, oLen_tup, oIn_str, oNotIn_str, seqOf_str, seqOf_tup, seqOf_lst, startS, RS.seq_nx, RS.seq_ret, RS.seq_brk, RS.seq_ct, RS.seq_err, RS.seq_bad, L2.DL.R.bind_ok, L2.DL.R.bind_err, L2.DL.R.bind_bad, rS_ok, rS_err, rS_bad, Option.bind_some, Option.bind_none, Option.map_some, Option.map_none, Option.join_some, gN, noOwn, noOwns, noObj, noObjs, noSh, noShs, frz, frzs, List.map_cons, List.map_nil, List.getElem?_cons_zero, List.getElem?_cons_succ, List.set_cons_zero, List.set_cons_succ, List.length_cons, List.length_nil, List.cons_append, List.nil_append, List.replicate, setS_nil, setS_cons, gsNil, gsCons, gTn, Bool.and_true, Bool.true_and, Bool.and_false, Bool.false_and, Bool.or_true, Bool.true_or, Bool.or_false, Bool.false_or, Bool.not_true, Bool.not_false, Bool.and_self, if_true, if_false, Bool.false_eq_true, reduceIte, decide_true, decide_false, callIO, callPB, gatherA, backA, List.take_succ_cons, List.take_zero, atI0, atI1, atI2, atI3, Nat.reduceAdd, Nat.reduceSub, Int.reduceLT, Int.reduceLE, Int.reduceNeg, Int.reduceAdd, Int.reduceSub, Int.reduceMul, Nat.reduceLT, Nat.reduceLeDiff, Int.reduceEq, Int.reduceBEq, counted_call (o := false) (l := a) (by omega), noOwns_T, e, sc]
  rfl
theorem plus_call {o p : Bool} {a b : Dic} {n : Nat} (ta : Tal a) (ra : ∀ p ∈ a, p.1.length = n) (rb : ∀ p ∈ b, p.1.length = n) (ha : a.length + b.length ≤ 16777216) : callP m_plus [.lst o (encT a), .lst p (encT b)] = some (.lst true (encT (pls a b))) := by
  simp only [callP, noObjs, noObj, noObjs_T, frzs, frz, frzs_T, plus_spec ta ra rb ha, noSh, noShs_T, sSeq_ap, sNil_ap, sIf_ap, sSet_ap, sRet_ap, sRetN_ap, sDrop_ap, sAsg_ap, sFor_ap, sAug_ap, sAugL_ap, sPut_ap, mT_ap, mTest_ap, mF_ap, mP_ap, mMove_ap, mFrz_ap, mFz_ap, sRaiseI_ap, mOp2_ap, mOp1_ap, mOpS_ap, mIx_ap, mIxL_ap, mIte_ap, mNot_ap, mAnd_ap, mOr_ap, mAndV_ap, mOrV_ap, msNil_ap, msCons_ap, psNil_ap, psCons_ap, pVar_ap, pC_ap, pOp1_ap, pOp2_ap, pOpS_ap, pTest_ap, pNot_ap, pAnd_ap, pOr_ap, pVal_ap, pAndV_ap, pOrV_ap, pIte_ap, pChain_ap, pNo_ap, poNone_ap, poSome_ap, pSl_ap, pSeq_ap, mSeq_ap, pRng_ap, mRng_ap, pComp_ap, mComp_ap, pYes_ap, pMet_ap, mMet_ap, mMeth_ap, pIsi_ap, pGet2_ap, aNil_ap, aSlot_ap, aVal_ap, mCallIO_ap, mCall_ap, mCallP_ap, mCallPB_ap, oIsN_ap, oNotN_ap, oAdd_int, oSub_int, ipAdd_int, ipSub_int, oLt_int, oLe_int, oGt_int, oGe_int, oLt_str, oLe_str, oGt_str, oGe_str, oEq_int, oNe_int, oEq_bl, oNeg_int, oSubs_lst, oSubs_tup, oIx_lst, oIx_tup, oLen_lst, oLen_tup, oIn_str, oNotIn_str, seqOf_str, seqOf_tup, seqOf_lst, startS, RS.seq_nx, RS.seq_ret, RS.seq_brk, RS.seq_ct, RS.seq_err, RS.seq_bad, L2.DL.R.bind_ok, L2.DL.R.bind_err, L2.DL.R.bind_bad, rS_ok, rS_err, rS_bad, Option.bind_some, Option.bind_none, Option.map_some, Option.map_none, Option.join_some, gN, noOwn, noOwns, noObj, noObjs, noSh, noShs, frz, frzs, List.map_cons, List.map_nil, List.getElem?_cons_zero, List.getElem?_cons_succ, List.set_cons_zero, List.set_cons_succ, List.length_cons, List.length_nil, List.cons_append, List.nil_append, List.replicate, setS_nil, setS_cons, gsNil, gsCons, gTn, Bool.and_true, Bool.true_and, Bool.and_false, Bool.false_and, Bool.or_true, Bool.true_or, Bool.or_false, Bool.false_or, Bool.not_true, Bool.not_false, Bool.and_self, if_true, if_false, Bool.false_eq_true, reduceIte, decide_true, decide_false, callIO, callPB, gatherA, backA, List.take_succ_cons, List.take_zero, atI0, atI1, atI2, atI3, Nat.reduceAdd, Nat.reduceSub, Int.reduceLT, Int.reduceLE, Int.reduceNeg, Int.reduceAdd, Int.reduceSub, Int.reduceMul, Nat.reduceLT, Nat.reduceLeDiff, Int.reduceEq, Int.reduceBEq]
theorem pls_len {a b : Dic} (ta : Tal a) : (pls a b).length ≤ a.length + b.length := by
  have h1 := settle_len (D := accD id b (cntd a))
  have h2 := accD_len id b (cntd a)
  rw [cntd_eq ta.nd] at h1 h2
  unfold pls; rw [cntd_eq ta.nd]; omega
theorem pls_rows {a b : Dic} {n : Nat} (ta : Tal a) (ra : ∀ p ∈ a, p.1.length = n) (rb : ∀ p ∈ b, p.1.length = n) : ∀ p ∈ pls a b, p.1.length = n := fun p hp => by
  obtain ⟨z1, _, _⟩ := mem_settle hp
  obtain ⟨z, hz, ez⟩ := List.mem_map.mp z1
  rw [← ez]
  rw [cntd_eq ta.nd] at hz
  exact accD_all (f := id) (P := fun r => r.length = n) b a ra rb z hz
theorem intsOf_ints : ∀ l : List Int, intsOf (l.map .int) = some l
  | [] => rfl
  | x :: l => by simp only [List.map_cons, intsOf, intsOf_ints l, Option.map_some]
theorem tot_sum : ∀ l : Dic, (l.map Prod.snd).sum = tot l
  | [] => rfl
  | p :: l => by simp only [List.map_cons, List.sum_cons, tot, tot_sum l]
theorem sum_comp {is : List Nat} {f : P Val} {ρ : Slots} {l : Dic} (h : ∀ p ∈ l, f (setS ρ is [.tup (encI p.1), .int p.2]) = some (.int p.2)) : compP is (gTn 2 (gsCons gN (gsCons gN gsNil))) pYes f ρ (encT l) = some ((l.map Prod.snd).map .int) := by
  have := compP_map (is := is) (t := gTn 2 (gsCons gN (gsCons gN gsNil))) (f := f) (ρ := ρ) pairV (fun p => .int p.2) l fun p hp => ⟨[.tup (encI p.1), .int p.2], rfl, h p hp⟩
  rw [encT, this, List.map_map]; rfl
theorem oSum_ints (o : Bool) (l : Dic) : oSum [.lst o ((l.map Prod.snd).map .int)] = some (.int (tot l)) := by
  simp only [oSum, intsOf_ints, Option.map_some, tot_sum]
theorem total_call {o : Bool} {l : Dic} (h2 : l.length ≤ 16777216) : callP m_total [.lst o (encT l)] = some (.int (tot l)) := by
  have e : m_total [.lst false (encT l)] = .ok (.int (tot l)) := by
    unfold m_total fnP g_total
    have cp : compP [1, 2] (gTn 2 (gsCons gN (gsCons gN gsNil))) pYes (pNo (pVar 2)) [some (.lst false (encT l)), none, none] (encT l) = some ((l.map Prod.snd).map .int) := sum_comp fun p _ => by simp only [sSeq_ap, sNil_ap, sIf_ap, sSet_ap, sRet_ap, sRetN_ap, sDrop_ap, sAsg_ap, sFor_ap, sAug_ap, sAugL_ap, sPut_ap, mT_ap, mTest_ap, mF_ap, mP_ap, mMove_ap, mFrz_ap, mFz_ap, sRaiseI_ap, mOp2_ap, mOp1_ap, mOpS_ap, mIx_ap, mIxL_ap, mIte_ap, mNot_ap, mAnd_ap, mOr_ap, mAndV_ap, mOrV_ap, msNil_ap, msCons_ap, psNil_ap, psCons_ap, pVar_ap, pC_ap, pOp1_ap, pOp2_ap, pOpS_ap, pTest_ap, pNot_ap, pAnd_ap, pOr_ap, pVal_ap, pAndV_ap, pOrV_ap, pIte_ap, pChain_ap, pNo_ap, poNone_ap, poSome_ap, pSl_ap, pSeq_ap, mSeq_ap, pRng_ap, mRng_ap, pComp_ap, mComp_ap, pYes_ap, pMet_ap, mMet_ap, mMeth_ap, pIsi_ap, pGet2_ap, aNil_ap, aSlot_ap, aVal_ap, mCallIO_ap, mCall_ap, mCallP_ap, mCallPB_ap, oIsN_ap, oNotN_ap, oAdd_int, oSub_int, ipAdd_int, ipSub_int, oLt_int, oLe_int, oGt_int, oGe_int, oLt_str, oLe_str, oGt_str, oGe_str, oEq_int, oNe_int, oEq_bl, oNeg_int, oSubs_lst, oSubs_tup, oIx_lst, oIx_tup, oLen_lst, oLen_tup, oIn_str, oNotIn_str, seqOf_str, seqOf_tup, seqOf_lst, startS, RS.seq_nx, RS.seq_ret, RS.seq_brk, RS.seq_ct, RS.seq_err, RS.seq_bad, L2.DL.R.bind_ok, L2.DL.R.bind_err, L2.DL.R.bind_bad, rS_ok, rS_err, rS_bad, Option.bind_some, Option.bind_none, Option.map_some, Option.map_none, Option.join_some, gN, noOwn, noOwns, noObj, noObjs, noSh, noShs, frz, frzs, List.map_cons, List.map_nil, List.getElem?_cons_zero, List.getElem?_cons_succ, List.set_cons_zero, List.set_cons_succ, List.length_cons, List.length_nil, List.cons_append, List.nil_append, List.replicate, setS_nil, setS_cons, gsNil, gsCons, gTn, Bool.and_true, Bool.true_and, Bool.and_false, Bool.false_and, Bool.or_true, Bool.true_or, Bool.or_false, Bool.false_or, Bool.not_true, Bool.not_false, Bool.and_self, if_true, if_false, Bool.false_eq_true, reduceIte, decide_true, decide_false, callIO, callPB, gatherA, backA, List.take_succ_cons, List.take_zero, atI0, atI1, atI2, atI3, Nat.reduceAdd, Nat.reduceSub, Int.reduceLT, Int.reduceLE, Int.reduceNeg, Int.reduceAdd, Int.reduceSub, Int.reduceMul, Nat.reduceLT, Nat.reduceLeDiff, Int.reduceEq, Int.reduceBEq]
    have w12 : ∀ a b c, wipeS [a, b, c] [1, 2] = [a, none, none] := fun _ _ _ => rfl
    have lz : ((l.map Prod.snd).map Val.int).length ≤ sizeLine := by rw [List.length_map, List.length_map, sizeLine_eq]; exact h2
    simp only [sSeq_ap, sNil_ap, sIf_ap, sSet_ap, sRet_ap, sRetN_ap, sDrop_ap, sAsg_ap, sFor_ap, sAug_ap, sAugL_ap, sPut_ap, mT_ap, mTest_ap, mF_ap, mP_ap, mMove_ap, mFrz_ap, mFz_ap, sRaiseI_ap, mOp2_ap, mOp1_ap, mOpS_ap, mIx_ap, mIxL_ap, mIte_ap, mNot_ap, mAnd_ap, mOr_ap, mAndV_ap, mOrV_ap, msNil_ap, msCons_ap, psNil_ap, psCons_ap, pVar_ap, pC_ap, pOp1_ap, pOp2_ap, pOpS_ap, pTest_ap, pNot_ap, pAnd_ap, pOr_ap, pVal_ap, pAndV_ap, pOrV_ap, pIte_ap, pChain_ap, pNo_ap, poNone_ap, poSome_ap, pSl_ap, pSeq_ap, mSeq_ap, pRng_ap, mRng_ap, pComp_ap, mComp_ap, pYes_ap, pMet_ap, mMet_ap, mMeth_ap, pIsi_ap, pGet2_ap, aNil_ap, aSlot_ap, aVal_ap, mCallIO_ap, mCall_ap, mCallP_ap, mCallPB_ap, oIsN_ap, oNotN_ap, oAdd_int, oSub_int, ipAdd_int, ipSub_int, oLt_int, oLe_int, oGt_int, oGe_int, oLt_str, oLe_str, oGt_str, oGe_str, oEq_int, oNe_int, oEq_bl, oNeg_int, oSubs_lst, oSubs_tup, oIx_lst, oIx_tup, oLen_lst, oLen_tup, oIn_str, oNotIn_str, seqOf_str, seqOf_tup, seqOf_lst, startS, RS.seq_nx, RS.seq_ret, RS.seq_brk, RS.seq_ct, RS.seq_err, RS.seq_bad, L2.DL.R.bind_ok, L2.DL.R.bind_err, L2.DL.R.bind_bad, rS_ok, rS_err, rS_bad, Option.bind_some, Option.bind_none, Option.map_some, Option.map_none, Option.join_some, gN, noOwn, noOwns, noObj, noObjs, noSh, noShs, frz, frzs, List.map_cons, List.map_nil, List.getElem?_cons_zero, List.getElem?_cons_succ, List.set_cons_zero, List.set_cons_succ, List.length_cons, List.length_nil, List.cons_append, List.nil_append, List.replicate, setS_nil, setS_cons, gsNil, gsCons, gTn, Bool.and_true, Bool.true_and, Bool.and_false, Bool.false_and, Bool.or_true, Bool.true_or, Bool.or_false, Bool.false_or, Bool.not_true, Bool.not_false, Bool.and_self, if_true, if_false, Bool.false_eq_true, reduceIte, decide_true, decide_false, callIO, callPB, gatherA, backA, List.take_succ_cons, List.take_zero, atI0, atI1, atI2, atI3, Nat.reduceAdd, Nat.reduceSub, Int.reduceLT, Int.reduceLE, Int.reduceNeg, Int.reduceAdd, Int.reduceSub, Int.reduceMul, Nat.reduceLT, Nat.reduceLeDiff, Int.reduceEq, Int.reduceBEq, w12, cp, lz, oSum_ints]
  simp only [callP, noObjs, noObj, noObjs_T, frzs, frz, frzs_T, e, sSeq_ap, sNil_ap, sIf_ap, sSet_ap, sRet_ap, sRetN_ap, sDrop_ap, sAsg_ap, sFor_ap, sAug_ap, sAugL_ap, sPut_ap, mT_ap, mTest_ap, mF_ap, mP_ap, mMove_ap, mFrz_ap, mFz_ap, sRaiseI_ap, mOp2_ap, mOp1_ap, mOpS_ap, mIx_ap, mIxL_ap, mIte_ap, mNot_ap, mAnd_ap, mOr_ap, mAndV_ap, mOrV_ap, msNil_ap, msCons_ap, psNil_ap, psCons_ap, pVar_ap, pC_ap, pOp1_ap, pOp2_ap, pOpS_ap, pTest_ap, pNot_ap, pAnd_ap, pOr_ap, pVal_ap, pAndV_ap, pOrV_ap, pIte_ap, pChain_ap, pNo_ap, poNone_ap, poSome_ap, pSl_ap, pSeq_ap, mSeq_ap, pRng_ap, mRng_ap, pComp_ap, mComp_ap, pYes_ap, pMet_ap, mMet_ap, mMeth_ap, pIsi_ap, pGet2_ap, aNil_ap, aSlot_ap, aVal_ap, mCallIO_ap, mCall_ap, mCallP_ap, mCallPB_ap, oIsN_ap, oNotN_ap, oAdd_int, oSub_int, ipAdd_int, ipSub_int, oLt_int, oLe_int, oGt_int, oGe_int, oLt_str, oLe_str, oGt_str, oGe_str, oEq_int, oNe_int, oEq_bl, oNeg_int, oSubs_lst, oSubs_tup, oIx_lst, oIx_tup, oLen_lst, oLen_tup, oIn_str, oNotIn_str, seqOf_str, seqOf_tup, seqOf_lst, startS, RS.seq_nx, RS.seq_ret, RS.seq_brk, RS.seq_ct, RS.seq_err, RS.seq_bad, L2.DL.R.bind_ok, L2.DL.R.bind_err, L2.DL.R.bind_bad, rS_ok, rS_err, rS_bad, Option.bind_some, Option.bind_none, Option.map_some, Option.map_none, Option.join_some, gN, noOwn, noOwns, noObj, noObjs, noSh, noShs, frz, frzs, List.map_cons, List.map_nil, List.getElem?_cons_zero, List.getElem?_cons_succ, List.set_cons_zero, List.set_cons_succ, List.length_cons, List.length_nil, List.cons_append, List.nil_append, List.replicate, setS_nil, setS_cons, gsNil, gsCons, gTn, Bool.and_true, Bool.true_and, Bool.and_false, Bool.false_and, Bool.or_true, Bool.true_or, Bool.or_false, Bool.false_or, Bool.not_true, Bool.not_false, Bool.and_self, if_true, if_false, Bool.false_eq_true, reduceIte, decide_true, decide_false, callIO, callPB, gatherA, backA, List.take_succ_cons, List.take_zero, atI0, atI1, atI2, atI3, Nat.reduceAdd, Nat.reduceSub, Int.reduceLT, Int.reduceLE, Int.reduceNeg, Int.reduceAdd, Int.reduceSub, Int.reduceMul, Nat.reduceLT, Nat.reduceLeDiff, Int.reduceEq, Int.reduceBEq]
end RT

namespace RT
open L2 PyProof.Rows PySem.Spec PySem L2.DL SX
/-! ### dict(a tally) -/
theorem pairsW_T : ∀ l : Dic, pairsW (encT l) = some (l.map fun p => (keyI p.1, Val.int p.2))
  | [] => rfl
  | p :: l => by
    rw [encT_c]
    simp only [pairsW, keysV_I, Option.bind_some, noOwn, if_true, pairsW_T l, Option.map_some, List.map_cons]
theorem foldW_T : ∀ (l D : Dic), foldW (D.map (fun p => keyI p.1), encI (D.map Prod.snd)) (l.map fun p => (keyI p.1, Val.int p.2)) = ((l.foldl (fun D p => put D p.1 p.2) D).map (fun p => keyI p.1), encI ((l.foldl (fun D p => put D p.1 p.2) D).map Prod.snd))
  | [], D => rfl
  | p :: l, D => by
    have := foldW_T l (put D p.1 p.2)
    rw [List.foldl_cons, ← this, List.map_cons]
    show foldW (putL (D.map fun p => keyI p.1) (encI (D.map Prod.snd)) (keyI p.1) (.int p.2)) _ = _
    rw [putL_D]
theorem oDict_T (o : Bool) (l : Dic) : oDict [.lst o (encT l)] = some (dV true (cntd l)) := by
  have := foldW_T l []
  simp only [List.map_nil, show encI [] = [] from rfl] at this
  simp only [oDict, pairsW_T, Option.map_some, this]
  rfl
/-! ### counts taken -/
def subD : Dic → Dic → Dic
  | [], D => D
  | p :: ps, D => subD ps (put D p.1 (get0 D p.1 - p.2))
def few (D ps : Dic) : Dic := ps.filter fun p => decide (get0 D p.1 < p.2)
theorem subD_len : ∀ (ps D : Dic), (subD ps D).length ≤ D.length + ps.length
  | [], D => Nat.le_refl _
  | p :: ps, D => by
    have h1 := subD_len ps (put D p.1 (get0 D p.1 - p.2))
    have h2 := put_len D p.1 (get0 D p.1 - p.2)
    rw [subD, List.length_cons]; omega
theorem subD_nodup : ∀ (ps D : Dic), (D.map Prod.fst).Nodup → ((subD ps D).map Prod.fst).Nodup
  | [], D, h => h
  | p :: ps, D, h => by
    rw [subD]
    exact subD_nodup ps _ (put_nodup _ _ h)
theorem subD_all {P : Row → Prop} : ∀ (ps D : Dic), (∀ p ∈ D, P p.1) → (∀ p ∈ ps, P p.1) → ∀ p ∈ subD ps D, P p.1
  | [], D, h, _ => h
  | p :: ps, D, h, h2 => by
    rw [subD]
    refine subD_all ps _ (fun q hq => ?_) fun q hq => h2 q (List.mem_cons_of_mem _ hq)
    rcases put_mem hq with hq | rfl
    · exact h q hq
    · exact h2 p List.mem_cons_self
theorem get0_sub (s : Row) : ∀ (ps D : Dic), get0 (subD ps D) s = get0 D s - cnt id ps s
  | [], D => by simp only [subD, cnt, Int.sub_zero]
  | p :: ps, D => by
    rw [subD, get0_sub s ps, get0_put, cnt]
    show _ = get0 D s - ((if p.1 = s then p.2 else 0) + cnt id ps s)
    by_cases h : p.1 = s
    · rw [if_pos h, if_pos h, h]; omega
    · rw [if_neg h, if_neg h]; omega
theorem few_put {D ps : Dic} {r : Row} {c : Int} (h : r ∉ ps.map Prod.fst) : few (put D r c) ps = few D ps := by
  unfold few
  refine List.filter_congr fun p hp => ?_
  rw [get0_put, if_neg]
  rintro rfl
  exact h (List.mem_map.mpr ⟨p, hp, rfl⟩)
theorem less_loop {a b : Option Val} : ∀ (ps D : Dic) (x y : Option Val), (ps.map Prod.fst).Nodup → (∀ p ∈ ps, 0 < p.2) → D.length + ps.length ≤ 16777216 →
    (few D ps = [] → ∃ x' y', forL [3, 4] (gTn 2 (gsCons gN (gsCons gN gsNil))) l1_less (encT ps) [a, b, some (dV true D), x, y] = .nx [a, b, some (dV true (subD ps D)), x', y']) ∧
    ∀ q qs, few D ps = q :: qs → ∃ ρ', forL [3, 4] (gTn 2 (gsCons gN (gsCons gN gsNil))) l1_less (encT ps) [a, b, some (dV true D), x, y] = .err "TooFew" (some ("row", .tup (encI q.1))) ρ'
  | [], D, x, y, _, _, _ => ⟨fun _ => ⟨x, y, rfl⟩, fun q qs h => by cases h⟩
  | p :: ps, D, x, y, nd, hp, hl => by
    simp only [List.length_cons] at hl
    rw [List.map_cons, List.nodup_cons] at nd
    have pl := put_len D p.1 (get0 D p.1 - p.2)
    obtain ⟨i1, i2⟩ := less_loop (a := a) (b := b) ps (put D p.1 (get0 D p.1 - p.2)) (some (.tup (encI p.1))) (some (.int p.2)) nd.2 (fun q hq => hp q (List.mem_cons_of_mem _ hq)) (by omega)
    rw [few_put nd.1] at i1 i2
    have pw := putW_D (D := D) (r := p.1) (c := get0 D p.1 - p.2) (by omega)
    rw [encT_c, forL]
    by_cases q1 : get0 D p.1 < p.2
    · have ef : few D (p :: ps) = p :: few D ps := by unfold few; rw [List.filter_cons, if_pos (decide_eq_true q1)]
      rw [ef]
      refine ⟨fun h => (by cases h), fun q qs h => ?_⟩
      cases h
      simp only [sSeq_ap, sNil_ap, sIf_ap, sSet_ap, sRet_ap, sRetN_ap, sDrop_ap, sAsg_ap, sFor_ap, sAug_ap, sAugL_ap, sPut_ap, mT_ap, mTest_ap, mF_ap, mP_ap, mMove_ap, mFrz_ap, mFz_ap, sRaiseI_ap, mOp2_ap, mOp1_ap, mOpS_ap, mIx_ap, mIxL_ap, mIte_ap, mNot_ap, mAnd_ap, mOr_ap, mAndV_ap, mOrV_ap, msNil_ap, msCons_ap, psNil_ap, psCons_ap, pVar_ap, pC_ap, pOp1_ap, pOp2_ap, pOpS_ap, pTest_ap, pNot_ap, pAnd_ap, pOr_ap, pVal_ap, pAndV_ap, pOrV_ap, pIte_ap, pChain_ap, pNo_ap, poNone_ap, poSome_ap, pSl_ap, pSeq_ap, mSeq_ap, pRng_ap, mRng_ap, pComp_ap, mComp_ap, pYes_ap, pMet_ap, mMet_ap, mMeth_ap, pIsi_ap, pGet2_ap, aNil_ap, aSlot_ap, aVal_ap, mCallIO_ap, mCall_ap, mCallP_ap, mCallPB_ap, oIsN_ap, oNotN_ap, oAdd_int, oSub_int, ipAdd_int, ipSub_int, oLt_int, oLe_int, oGt_int, oGe_int, oLt_str, oLe_str, oGt_str, oGe_str, oEq_int, oNe_int, oEq_bl, oNeg_int, oSubs_lst, oSubs_tup, oIx_lst, oIx_tup, oLen_lst, oLen_tup, oIn_str, oNotIn_str, seqOf_str, seqOf_tup, seqOf_lst, startS, RS.seq_nx, RS.seq_ret, RS.seq_brk, RS.seq_ct, RS.seq_err, RS.seq_bad, L2.DL.R.bind_ok, L2.DL.R.bind_err, L2.DL.R.bind_bad, rS_ok, rS_err, rS_bad, Option.bind_some, Option.bind_none, Option.map_some, Option.map_none, Option.join_some, gN, noOwn, noOwns, noObj, noObjs, noSh, noShs, frz, frzs, List.map_cons, List.map_nil, List.getElem?_cons_zero, List.getElem?_cons_succ, List.set_cons_zero, List.set_cons_succ, List.length_cons, List.length_nil, List.cons_append, List.nil_append, List.replicate, setS_nil, setS_cons, gsNil, gsCons, gTn, Bool.and_true, Bool.true_and, Bool.and_false, Bool.false_and, Bool.or_true, Bool.true_or, Bool.or_false, Bool.false_or, Bool.not_true, Bool.not_false, Bool.and_self, if_true, if_false, Bool.false_eq_true, reduceIte, decide_true, decide_false, callIO, callPB, gatherA, backA, List.take_succ_cons, List.take_zero, atI0, atI1, atI2, atI3, Nat.reduceAdd, Nat.reduceSub, Int.reduceLT, Int.reduceLE, Int.reduceNeg, Int.reduceAdd, Int.reduceSub, Int.reduceMul, Nat.reduceLT, Nat.reduceLeDiff, Int.reduceEq, Int.reduceBEq, l1_less, noOwns_I, gGet_D, q1]
      exact ⟨_, rfl⟩
    · have ef : few D (p :: ps) = few D ps := by unfold few; rw [List.filter_cons, if_neg (by simpa using q1)]
      rw [ef]
      have hm : p.1 ∈ D.map Prod.fst := by
        by_cases hm : p.1 ∈ D.map Prod.fst
        · exact hm
        · exfalso
          have g0 : get0 D p.1 = 0 := by unfold get0; rw [look_none hm]; rfl
          have := hp p List.mem_cons_self
          omega
      have os := oSubs_D (o := true) hm
      have st : (forL [3, 4] (gTn 2 (gsCons gN (gsCons gN gsNil))) l1_less (encT ps) [a, b, some (dV true (put D p.1 (get0 D p.1 - p.2))), some (.tup (encI p.1)), some (.int p.2)]) = (forL [3, 4] (gTn 2 (gsCons gN (gsCons gN gsNil))) l1_less (.tup [.tup (encI p.1), .int p.2] :: encT ps) [a, b, some (dV true D), x, y]) := by
        rw [forL]
        simp only [sSeq_ap, sNil_ap, sIf_ap, sSet_ap, sRet_ap, sRetN_ap, sDrop_ap, sAsg_ap, sFor_ap, sAug_ap, sAugL_ap, sPut_ap, mT_ap, mTest_ap, mF_ap, mP_ap, mMove_ap, mFrz_ap, mFz_ap, sRaiseI_ap, mOp2_ap, mOp1_ap, mOpS_ap, mIx_ap, mIxL_ap, mIte_ap, mNot_ap, mAnd_ap, mOr_ap, mAndV_ap, mOrV_ap, msNil_ap, msCons_ap, psNil_ap, psCons_ap, pVar_ap, pC_ap, pOp1_ap, pOp2_ap, pOpS_ap, pTest_ap, pNot_ap, pAnd_ap, pOr_ap, pVal_ap, pAndV_ap, pOrV_ap, pIte_ap, pChain_ap, pNo_ap, poNone_ap, poSome_ap, pSl_ap, pSeq_ap, mSeq_ap, pRng_ap, mRng_ap, pComp_ap, mComp_ap, pYes_ap, pMet_ap, mMet_ap, mMeth_ap, pIsi_ap, pGet2_ap, aNil_ap, aSlot_ap, aVal_ap, mCallIO_ap, mCall_ap, mCallP_ap, mCallPB_ap, oIsN_ap, oNotN_ap, oAdd_int, oSub_int, ipAdd_int, ipSub_int, oLt_int, oLe_int, oGt_int, oGe_int, oLt_str, oLe_str, oGt_str, oGe_str, oEq_int, oNe_int, oEq_bl, oNeg_int, oSubs_lst, oSubs_tup, oIx_lst, oIx_tup, oLen_lst, oLen_tup, oIn_str, oNotIn_str, seqOf_str, seqOf_tup, seqOf_lst, startS, RS.seq_nx, RS.seq_ret, RS.seq_brk, RS.seq_ct, RS.seq_err, RS.seq_bad, L2.DL.R.bind_ok, L2.DL.R.bind_err, L2.DL.R.bind_bad, rS_ok, rS_err, rS_bad, Option.bind_some, Option.bind_none, Option.map_some, Option.map_none, Option.join_some, gN, noOwn, noOwns, noObj, noObjs, noSh, noShs, frz, frzs, List.map_cons, List.map_nil, List.getElem?_cons_zero, List.getElem?_cons_succ, List.set_cons_zero, List.set_cons_succ, List.length_cons, List.length_nil, List.cons_append, List.nil_append, List.replicate, setS_nil, setS_cons, gsNil, gsCons, gTn, Bool.and_true, Bool.true_and, Bool.and_false, Bool.false_and, Bool.or_true, Bool.true_or, Bool.or_false, Bool.false_or, Bool.not_true, Bool.not_false, Bool.and_self, if_true, if_false, Bool.false_eq_true, reduceIte, decide_true, decide_false, callIO, callPB, gatherA, backA, List.take_succ_cons, List.take_zero, atI0, atI1, atI2, atI3, Nat.reduceAdd, Nat.reduceSub, Int.reduceLT, Int.reduceLE, Int.reduceNeg, Int.reduceAdd, Int.reduceSub, Int.reduceMul, Nat.reduceLT, Nat.reduceLeDiff, Int.reduceEq, Int.reduceBEq, l1_less, noOwns_I, gGet_D, q1, os, pw]
      rw [forL] at st
      rw [← st]
      exact ⟨i1, i2⟩
def lss (a b : Dic) : Dic := settle (subD b a)
theorem less_spec {a b : Dic} {n : Nat} (ta : Tal a) (nb : (b.map Prod.fst).Nodup) (pb : ∀ p ∈ b, 0 < p.2) (ra : ∀ p ∈ a, p.1.length = n) (rb : ∀ p ∈ b, p.1.length = n) (hl : a.length + b.length ≤ 16777216) :
    m_less [.lst false (encT a), .lst false (encT b)] = (match few a b with
      | [] => .ok (.lst true (encT (lss a b)))
      | q :: _ => .err "TooFew" (some ("row", .tup (encI q.1)))) := by
  unfold m_less fnP g_less
  have ce := cntd_eq ta.nd
  have cc := counted_call (o := false) (l := a) (by omega)
  rw [ce] at cc
  obtain ⟨i1, i2⟩ := less_loop (a := some (.lst false (encT a))) (b := some (.lst false (encT b))) b a none none nb pb hl
  have al := subD_len b a
  have ok : okKeys (subD b a) := okKeys_of (subD_nodup b _ ta.nd) fun p hp => subD_all (P := fun r => r.length = n) b a ra rb p hp
  have sc := settled_call (o := true) ok (by omega)
  cases q : few a b with
  | nil =>
    obtain ⟨x', y', e⟩ := i1 q
    simp only [sSeq_ap, sNil_ap, sIf_ap, sSet_ap, sRet_ap, sRetN_ap, sDrop_ap, sAsg_ap, sFor_ap, sAug_ap, sAugL_ap, sPut_ap, mT_ap, mTest_ap, mF_ap, mP_ap, mMove_ap, mFrz_ap, mFz_ap, sRaiseI_ap, mOp2_ap, mOp1_ap, mOpS_ap, mIx_ap, mIxL_ap, mIte_ap, mNot_ap, mAnd_ap, mOr_ap, mAndV_ap, mOrV_ap, msNil_ap, msCons_ap, psNil_ap, psCons_ap, pVar_ap, pC_ap, pOp1_ap, pOp2_ap, pOpS_ap, pTest_ap, pNot_ap, pAnd_ap, pOr_ap, pVal_ap, pAndV_ap, pOrV_ap, pIte_ap, pChain_ap, pNo_ap, poNone_ap, poSome_ap, pSl_ap, pSeq_ap, mSeq_ap, pRng_ap, mRng_ap, pComp_ap, mComp_ap, pYes_ap, pMet_ap, mMet_ap, mMeth_ap, pIsi_ap, pGet2_ap, aNil_ap, aSlot_ap, aVal_ap, mCallIO_ap, mCall_ap, mCallP_ap, mCallPB_ap, oIsN_ap, oNotN_ap, oAdd_int, oSub_int, ipAdd_int, ipSub_int, oLt_int, oLe_int, oGt_int, oGe_int, oLt_str, oLe_str, oGt_str, oGe_str, oEq_int, oNe_int, oEq_bl, oNeg_int, oSubs_lst, oSubs_tup, oIx_lst, oIx_tup, oLen_lst, oLen_tup, oIn_str, oNotIn_str, seqOf_str, seqOf_tup, seqOf_lst, startS, RS.seq_nx, RS.seq_ret, RS.seq_brk, RS.seq_ct, RS.seq_err, RS.seq_bad, L2.DL.R.bind_ok, L2.DL.R.bind_err, L2.DL.R.bind_bad, rS_ok, rS_err, rS_bad, Option.bind_some, Option.bind_none, Option.map_some, Option.map_none, Option.join_some, gN, noOwn, noOwns, noObj, noObjs, noSh, noShs, frz, frzs, List.map_cons, List.map_nil, List.getElem?_cons_zero, List.getElem?_cons_succ, List.set_cons_zero, List.set_cons_succ, List.length_cons, List.length_nil, List.cons_append, List.nil_append, List.replicate, setS_nil, setS_cons, gsNil, gsCons, gTn, Bool.and_true, Bool.true_and, Bool.and_false, Bool.false_and, Bool.or_true, Bool.true_or, Bool.or_false, Bool.false_or, Bool.not_true, Bool.not_false, Bool.and_self, if_true, if_false, Bool.false_eq_true, reduceIte, decide_true, decide_false, callIO, callPB, gatherA, backA, List.take_succ_cons, List.take_zero, atI0, atI1, atI2, atI3, Nat.reduceAdd, Nat.reduceSub, Int.reduceLT, Int.reduceLE, Int.reduceNeg, Int.reduceAdd, Int.reduceSub, Int.reduceMul, Nat.reduceLT, Nat.reduceLeDiff, Int.reduceEq, Int.reduceBEq, cc, noOwns_T, e, sc]
    rfl
  | cons p qs =>
    obtain ⟨ρ', e⟩ := i2 p qs q
    simp only [sSeq_ap, sNil_ap, sIf_ap, sSet_ap, sRet_ap, sRetN_ap, sDrop_ap, sAsg_ap, sFor_ap, sAug_ap, sAugL_ap, sPut_ap, mT_ap, mTest_ap, mF_ap, mP_ap, mMove_ap, mFrz_ap, mFz_ap, sRaiseI_ap, mOp2_ap, mOp1_ap, mOpS_ap, mIx_ap, mIxL_ap, mIte_ap, mNot_ap, mAnd_ap, mOr_ap, mAndV_ap, mOrV_ap, msNil_ap, msCons_ap, psNil_ap, psCons_ap, pVar_ap, pC_ap, pOp1_ap, pOp2_ap, pOpS_ap, pTest_ap, pNot_ap, pAnd_ap, pOr_ap, pVal_ap, pAndV_ap, pOrV_ap, pIte_ap, pChain_ap, pNo_ap, poNone_ap, poSome_ap, pSl_ap, pSeq_ap, mSeq_ap, pRng_ap, mRng_ap, pComp_ap, mComp_ap, pYes_ap, pMet_ap, mMet_ap, mMeth_ap, pIsi_ap, pGet2_ap, aNil_ap, aSlot_ap, aVal_ap, mCallIO_ap, mCall_ap, mCallP_ap, mCallPB_ap, oIsN_ap, oNotN_ap, oAdd_int, oSub_int, ipAdd_int, ipSub_int, oLt_int, oLe_int, oGt_int, oGe_int, oLt_str, oLe_str, oGt_str, oGe_str, oEq_int, oNe_int, oEq_bl, oNeg_int, oSubs_lst, oSubs_tup, oIx_lst, oIx_tup, oLen_lst, oLen_tup, oIn_str, oNotIn_str, seqOf_str, seqOf_tup, seqOf_lst, startS, RS.seq_nx, RS.seq_ret, RS.seq_brk, RS.seq_ct, RS.seq_err, RS.seq_bad, L2.DL.R.bind_ok, L2.DL.R.bind_err, L2.DL.R.bind_bad, rS_ok, rS_err, rS_bad, Option.bind_some, Option.bind_none, Option.map_some, Option.map_none, Option.join_some, gN, noOwn, noOwns, noObj, noObjs, noSh, noShs, frz, frzs, List.map_cons, List.map_nil, List.getElem?_cons_zero, List.getElem?_cons_succ, List.set_cons_zero, List.set_cons_succ, List.length_cons, List.length_nil, List.cons_append, List.nil_append, List.replicate, setS_nil, setS_cons, gsNil, gsCons, gTn, Bool.and_true, Bool.true_and, Bool.and_false, Bool.false_and, Bool.or_true, Bool.true_or, Bool.or_false, Bool.false_or, Bool.not_true, Bool.not_false, Bool.and_self, if_true, if_false, Bool.false_eq_true, reduceIte, decide_true, decide_false, callIO, callPB, gatherA, backA, List.take_succ_cons, List.take_zero, atI0, atI1, atI2, atI3, Nat.reduceAdd, Nat.reduceSub, Int.reduceLT, Int.reduceLE, Int.reduceNeg, Int.reduceAdd, Int.reduceSub, Int.reduceMul, Nat.reduceLT, Nat.reduceLeDiff, Int.reduceEq, Int.reduceBEq, cc, noOwns_T, e]
theorem lss_nil {a b : Dic} (ta : Tal a) (r : Row) : get0 (lss a b) r = get0 a r - cnt id b r := by
  rw [lss, get0_settle (subD_nodup b _ ta.nd), get0_sub]
theorem tal_lss {a b : Dic} (ta : Tal a) : Tal (lss a b) := tal_settle (subD_nodup b _ ta.nd)
theorem get0_nn {a : Dic} (h : ∀ p ∈ a, 1 ≤ p.2) (r : Row) : 0 ≤ get0 a r := by
  by_cases hm : r ∈ a.map Prod.fst
  · have := h _ (get0_mem hm); show 0 ≤ get0 a r; have e : ((r, get0 a r) : Row × Int).2 = get0 a r := rfl; omega
  · unfold get0; rw [look_none hm]; exact Int.le_refl _
theorem get0_of_mem {a : Dic} (nd : (a.map Prod.fst).Nodup) {p : Row × Int} (h : p ∈ a) : get0 a p.1 = p.2 := by
  induction a with
  | nil => cases h
  | cons q a ih =>
    rw [List.map_cons, List.nodup_cons] at nd
    rcases List.mem_cons.mp h with rfl | h
    · exact get0_head _ _
    · rw [get0_cons, ih nd.2 h]
      intro e
      exact nd.1 (by rw [e]; exact List.mem_map.mpr ⟨p, h, rfl⟩)
theorem few_nil {D ps : Dic} (h : ∀ p ∈ ps, p.2 ≤ get0 D p.1) : few D ps = [] := by
  unfold few
  rw [List.filter_eq_nil_iff]
  intro p hp
  have := h p hp
  simp only [decide_eq_true_eq]; omega
theorem few_pls {a b : Dic} (ta : Tal a) (tb : Tal b) (ha : ∀ p ∈ a, 1 ≤ p.2) : few (pls a b) b = [] := few_nil fun p hp => by
  rw [get0_pls ta tb, get0_of_mem tb.nd hp]
  have := get0_nn ha p.1
  omega
theorem lss_pls {a b : Dic} (ta : Tal a) (tb : Tal b) : lss (pls a b) b = a := (tal_lss (tal_pls a b)).ext ta fun r => by
  rw [lss_nil (tal_pls a b), get0_pls ta tb, cnt_id tb.nd]; omega
theorem pls_comm {a b : Dic} (ta : Tal a) (tb : Tal b) : pls a b = pls b a := (tal_pls a b).ext (tal_pls b a) fun r => by
  rw [get0_pls ta tb, get0_pls tb ta]; omega
theorem tot_pls {a b : Dic} (ta : Tal a) : tot (pls a b) = tot a + tot b := by
  have := cnt_pls (b := b) (fun _ => []) ta []
  simp only [cnt_const] at this
  exact this
/-! two tallies in a list -/
theorem eqB_two {o p o1 o2 p1 p2 : Bool} {a b : Dic} : eqB (.lst o [.lst o1 (encT a), .lst o2 (encT b)]) (.lst p [.lst p1 (encT a), .lst p2 (encT b)]) = some true := by
  have e : toPys [.lst o1 (encT a), .lst o2 (encT b)] = some [.list (a.map pairD), .list (b.map pairD)] := by
    simp only [toPys, toPy, toPys_T, Option.map_some, Option.bind_some]
  have e2 : toPys [.lst p1 (encT a), .lst p2 (encT b)] = some [.list (a.map pairD), .list (b.map pairD)] := by
    simp only [toPys, toPy, toPys_T, Option.map_some, Option.bind_some]
  have d1 := depth_T a
  have d2 := depth_T b
  have sh : SeqAt.shaped (.list [.list (a.map pairD), .list (b.map pairD)]) = true := by
    simp only [SeqAt.shaped, PyData.canLay0, PyData.canLayAll0, canLay_T, PyData.depth, PyData.depthAll, Bool.true_and, Bool.and_self]
    exact decide_eq_true (by omega)
  simp only [eqB, toPy, e, e2, Option.map_some, Option.bind_some, sh, Bool.and_self, if_true, PyData.eqv, PyData.eqvAll, eqvAll_T, decide_true]
end RT

namespace RT
open L2 PyProof.Rows PySem.Spec PySem L2.DL SX
/-- a part of a tally -/
structure SubT (l k : Dic) : Prop where
  sub : (l.map Prod.fst).Sublist (k.map Prod.fst)
  row : ∀ p ∈ l, p.1 ∈ k.map Prod.fst
  cnt : ∀ p ∈ l, 1 ≤ p.2 ∧ p.2 ≤ 1000000000000
theorem w67 : ∀ a b c d e f g h i j k l m n, wipeS [a, b, c, d, e, f, g, h, i, j, k, l, m, n] [6, 7] = [a, b, c, d, e, f, none, none, i, j, k, l, m, n] := fun _ _ _ _ _ _ _ _ _ _ _ _ _ _ => rfl
theorem part_loop8 {nums : List Int} {salt : Int} {s rm one other : Val} : ∀ (ps acc : Dic) (at_ left : Int), 0 ≤ at_ → (∀ p ∈ ps, 1 ≤ p.2 ∧ p.2 ≤ 1000000000000) → acc.length + ps.length ≤ 100000 →
    ∃ (l : Dic) (at' left' : Int), 0 ≤ at' ∧ l.length ≤ ps.length ∧ (l.map Prod.fst).Sublist (ps.map Prod.fst) ∧ (∀ p ∈ l, 1 ≤ p.2 ∧ p.2 ≤ 1000000000000) ∧
      compM [6, 7] [6, 7] (gTn 2 (gsCons gN (gsCons gN gsNil))) (mTest (mOp2 oGt (mCallIO (m_law_pull) (aSlot 1 (aVal (mF (pC (.int 3))) aNil))) (mF (pC (.int 0))))) (mOpS gTupM (msCons (mP (pVar 6)) (msCons (mOp2 oAdd (mF (pC (.int 1))) (mCallIO (m_law_pull) (aSlot 1 (aSlot 7 aNil)))) msNil))) (encT ps) (encT acc) [some s, some (bagV nums at_ left salt), some rm, some one, some other, none, none, none, none, none, none, none, none, none]
        = .ok (encT (acc ++ l)) [some s, some (bagV nums at' left' salt), some rm, some one, some other, none, none, none, none, none, none, none, none, none]
  | [], acc, at_, left, h0, _, _ => ⟨[], at_, left, h0, Nat.le_refl _, (.slnil), (fun _ h => by cases h), by rw [List.append_nil]; rfl⟩
  | p :: ps, acc, at_, left, h0, hp, hl => by
    simp only [List.length_cons] at hl
    obtain ⟨at1, left1, r1, h1, hr0, hr1, e1⟩ := pull_spec (nums := nums) (left := left) (salt := salt) (many := 3) h0 (by decide) (by decide)
    have hc := hp p List.mem_cons_self
    have la : (encT acc).length < sizeLine := by rw [encT_len, sizeLine_eq]; omega
    rw [encT_c, compM]
    by_cases hr : 0 < r1
    · obtain ⟨at2, left2, r2, h2, hr20, hr21, e2⟩ := pull_big (nums := nums) (left := left1) (salt := salt) (many := p.2) h1 (by omega) (by omega)
      obtain ⟨l, at3, left3, h3, l3, s3, c3, e3⟩ := part_loop8 (s := s) (rm := rm) (one := one) (other := other) ps (acc ++ [(p.1, 1 + r2)]) at2 left2 h2 (fun q hq => hp q (List.mem_cons_of_mem _ hq)) (by simp only [List.length_append, List.length_cons, List.length_nil]; omega)
      refine ⟨(p.1, 1 + r2) :: l, at3, left3, h3, by simp only [List.length_cons]; omega, ?_, fun q hq => ?_, ?_⟩
      · rw [List.map_cons, List.map_cons]; exact s3.cons₂ _
      · rcases List.mem_cons.mp hq with rfl | hq
        · exact ⟨by show 1 ≤ 1 + r2; omega, by show 1 + r2 ≤ _; omega⟩
        · exact c3 q hq
      · rw [encT_app] at e3
        rw [List.append_assoc] at e3
        simp only [sSeq_ap, sNil_ap, sIf_ap, sSet_ap, sRet_ap, sRetN_ap, sDrop_ap, sAsg_ap, sFor_ap, sAug_ap, sAugL_ap, sPut_ap, mT_ap, mTest_ap, mF_ap, mP_ap, mMove_ap, mFrz_ap, mFz_ap, sRaiseI_ap, mOp2_ap, mOp1_ap, mOpS_ap, mIx_ap, mIxL_ap, mIte_ap, mNot_ap, mAnd_ap, mOr_ap, mAndV_ap, mOrV_ap, msNil_ap, msCons_ap, psNil_ap, psCons_ap, pVar_ap, pC_ap, pOp1_ap, pOp2_ap, pOpS_ap, pTest_ap, pNot_ap, pAnd_ap, pOr_ap, pVal_ap, pAndV_ap, pOrV_ap, pIte_ap, pChain_ap, pNo_ap, poNone_ap, poSome_ap, pSl_ap, pSeq_ap, mSeq_ap, pRng_ap, mRng_ap, pComp_ap, mComp_ap, pYes_ap, pMet_ap, mMet_ap, mMeth_ap, pIsi_ap, pGet2_ap, aNil_ap, aSlot_ap, aVal_ap, mCallIO_ap, mCall_ap, mCallP_ap, mCallPB_ap, oIsN_ap, oNotN_ap, oAdd_int, oSub_int, ipAdd_int, ipSub_int, oLt_int, oLe_int, oGt_int, oGe_int, oLt_str, oLe_str, oGt_str, oGe_str, oEq_int, oNe_int, oEq_bl, oNeg_int, oSubs_lst, oSubs_tup, oIx_lst, oIx_tup, oLen_lst, oLen_tup, oIn_str, oNotIn_str, seqOf_str, seqOf_tup, seqOf_lst, startS, RS.seq_nx, RS.seq_ret, RS.seq_brk, RS.seq_ct, RS.seq_err, RS.seq_bad, L2.DL.R.bind_ok, L2.DL.R.bind_err, L2.DL.R.bind_bad, rS_ok, rS_err, rS_bad, Option.bind_some, Option.bind_none, Option.map_some, Option.map_none, Option.join_some, gN, noOwn, noOwns, noObj, noObjs, noSh, noShs, frz, frzs, List.map_cons, List.map_nil, List.getElem?_cons_zero, List.getElem?_cons_succ, List.set_cons_zero, List.set_cons_succ, List.length_cons, List.length_nil, List.cons_append, List.nil_append, List.replicate, setS_nil, setS_cons, gsNil, gsCons, gTn, Bool.and_true, Bool.true_and, Bool.and_false, Bool.false_and, Bool.or_true, Bool.true_or, Bool.or_false, Bool.false_or, Bool.not_true, Bool.not_false, Bool.and_self, if_true, if_false, Bool.false_eq_true, reduceIte, decide_true, decide_false, callIO, callPB, gatherA, backA, List.take_succ_cons, List.take_zero, atI0, atI1, atI2, atI3, Nat.reduceAdd, Nat.reduceSub, Int.reduceLT, Int.reduceLE, Int.reduceNeg, Int.reduceAdd, Int.reduceSub, Int.reduceMul, Nat.reduceLT, Nat.reduceLeDiff, Int.reduceEq, Int.reduceBEq, noOwns_I, nE_ok, e1, hr, e2, gTupM_ap, sz2, w67, la]
        exact e3
    · obtain ⟨l, at3, left3, h3, l3, s3, c3, e3⟩ := part_loop8 (s := s) (rm := rm) (one := one) (other := other) ps acc at1 left1 h1 (fun q hq => hp q (List.mem_cons_of_mem _ hq)) (by omega)
      refine ⟨l, at3, left3, h3, by simp only [List.length_cons]; omega, ?_, c3, ?_⟩
      · rw [List.map_cons]; exact s3.cons _
      · simp only [sSeq_ap, sNil_ap, sIf_ap, sSet_ap, sRet_ap, sRetN_ap, sDrop_ap, sAsg_ap, sFor_ap, sAug_ap, sAugL_ap, sPut_ap, mT_ap, mTest_ap, mF_ap, mP_ap, mMove_ap, mFrz_ap, mFz_ap, sRaiseI_ap, mOp2_ap, mOp1_ap, mOpS_ap, mIx_ap, mIxL_ap, mIte_ap, mNot_ap, mAnd_ap, mOr_ap, mAndV_ap, mOrV_ap, msNil_ap, msCons_ap, psNil_ap, psCons_ap, pVar_ap, pC_ap, pOp1_ap, pOp2_ap, pOpS_ap, pTest_ap, pNot_ap, pAnd_ap, pOr_ap, pVal_ap, pAndV_ap, pOrV_ap, pIte_ap, pChain_ap, pNo_ap, poNone_ap, poSome_ap, pSl_ap, pSeq_ap, mSeq_ap, pRng_ap, mRng_ap, pComp_ap, mComp_ap, pYes_ap, pMet_ap, mMet_ap, mMeth_ap, pIsi_ap, pGet2_ap, aNil_ap, aSlot_ap, aVal_ap, mCallIO_ap, mCall_ap, mCallP_ap, mCallPB_ap, oIsN_ap, oNotN_ap, oAdd_int, oSub_int, ipAdd_int, ipSub_int, oLt_int, oLe_int, oGt_int, oGe_int, oLt_str, oLe_str, oGt_str, oGe_str, oEq_int, oNe_int, oEq_bl, oNeg_int, oSubs_lst, oSubs_tup, oIx_lst, oIx_tup, oLen_lst, oLen_tup, oIn_str, oNotIn_str, seqOf_str, seqOf_tup, seqOf_lst, startS, RS.seq_nx, RS.seq_ret, RS.seq_brk, RS.seq_ct, RS.seq_err, RS.seq_bad, L2.DL.R.bind_ok, L2.DL.R.bind_err, L2.DL.R.bind_bad, rS_ok, rS_err, rS_bad, Option.bind_some, Option.bind_none, Option.map_some, Option.map_none, Option.join_some, gN, noOwn, noOwns, noObj, noObjs, noSh, noShs, frz, frzs, List.map_cons, List.map_nil, List.getElem?_cons_zero, List.getElem?_cons_succ, List.set_cons_zero, List.set_cons_succ, List.length_cons, List.length_nil, List.cons_append, List.nil_append, List.replicate, setS_nil, setS_cons, gsNil, gsCons, gTn, Bool.and_true, Bool.true_and, Bool.and_false, Bool.false_and, Bool.or_true, Bool.true_or, Bool.or_false, Bool.false_or, Bool.not_true, Bool.not_false, Bool.and_self, if_true, if_false, Bool.false_eq_true, reduceIte, decide_true, decide_false, callIO, callPB, gatherA, backA, List.take_succ_cons, List.take_zero, atI0, atI1, atI2, atI3, Nat.reduceAdd, Nat.reduceSub, Int.reduceLT, Int.reduceLE, Int.reduceNeg, Int.reduceAdd, Int.reduceSub, Int.reduceMul, Nat.reduceLT, Nat.reduceLeDiff, Int.reduceEq, Int.reduceBEq, noOwns_I, nE_ok, e1, hr, w67]
        exact e3
theorem loop1 {K : PySem.W.Frag} {a b c d e : Option Val} : ∀ (ps D : Dic) (x y : Option Val), D.length + ps.length ≤ 16777216 →
    ∃ x' y', forL [6, 7] (gTn 2 (gsCons gN (gsCons gN gsNil))) (l1_law_10 K) (encT ps) [a, b, c, d, e, some (dV true D), x, y, none, none, none, none, none, none] = .nx [a, b, c, d, e, some (dV true (accD id ps D)), x', y', none, none, none, none, none, none]
  | [], D, x, y, _ => ⟨x, y, rfl⟩
  | p :: ps, D, x, y, hd => by
    simp only [List.length_cons] at hd
    have pl := put_len D p.1 (get0 D p.1 + p.2)
    obtain ⟨x', y', ih⟩ := loop1 (K := K) (a := a) (b := b) (c := c) (d := d) (e := e) ps (put D p.1 (get0 D p.1 + p.2)) (some (.tup (encI p.1))) (some (.int p.2)) (by omega)
    have pw := putW_D (D := D) (r := p.1) (c := get0 D p.1 + p.2) (by omega)
    refine ⟨x', y', ?_⟩
    rw [encT_c, forL, accD]
    simp only [sSeq_ap, sNil_ap, sIf_ap, sSet_ap, sRet_ap, sRetN_ap, sDrop_ap, sAsg_ap, sFor_ap, sAug_ap, sAugL_ap, sPut_ap, mT_ap, mTest_ap, mF_ap, mP_ap, mMove_ap, mFrz_ap, mFz_ap, sRaiseI_ap, mOp2_ap, mOp1_ap, mOpS_ap, mIx_ap, mIxL_ap, mIte_ap, mNot_ap, mAnd_ap, mOr_ap, mAndV_ap, mOrV_ap, msNil_ap, msCons_ap, psNil_ap, psCons_ap, pVar_ap, pC_ap, pOp1_ap, pOp2_ap, pOpS_ap, pTest_ap, pNot_ap, pAnd_ap, pOr_ap, pVal_ap, pAndV_ap, pOrV_ap, pIte_ap, pChain_ap, pNo_ap, poNone_ap, poSome_ap, pSl_ap, pSeq_ap, mSeq_ap, pRng_ap, mRng_ap, pComp_ap, mComp_ap, pYes_ap, pMet_ap, mMet_ap, mMeth_ap, pIsi_ap, pGet2_ap, aNil_ap, aSlot_ap, aVal_ap, mCallIO_ap, mCall_ap, mCallP_ap, mCallPB_ap, oIsN_ap, oNotN_ap, oAdd_int, oSub_int, ipAdd_int, ipSub_int, oLt_int, oLe_int, oGt_int, oGe_int, oLt_str, oLe_str, oGt_str, oGe_str, oEq_int, oNe_int, oEq_bl, oNeg_int, oSubs_lst, oSubs_tup, oIx_lst, oIx_tup, oLen_lst, oLen_tup, oIn_str, oNotIn_str, seqOf_str, seqOf_tup, seqOf_lst, startS, RS.seq_nx, RS.seq_ret, RS.seq_brk, RS.seq_ct, RS.seq_err, RS.seq_bad, L2.DL.R.bind_ok, L2.DL.R.bind_err, L2.DL.R.bind_bad, rS_ok, rS_err, rS_bad, Option.bind_some, Option.bind_none, Option.map_some, Option.map_none, Option.join_some, gN, noOwn, noOwns, noObj, noObjs, noSh, noShs, frz, frzs, List.map_cons, List.map_nil, List.getElem?_cons_zero, List.getElem?_cons_succ, List.set_cons_zero, List.set_cons_succ, List.length_cons, List.length_nil, List.cons_append, List.nil_append, List.replicate, setS_nil, setS_cons, gsNil, gsCons, gTn, Bool.and_true, Bool.true_and, Bool.and_false, Bool.false_and, Bool.or_true, Bool.true_or, Bool.or_false, Bool.false_or, Bool.not_true, Bool.not_false, Bool.and_self, if_true, if_false, Bool.false_eq_true, reduceIte, decide_true, decide_false, callIO, callPB, gatherA, backA, List.take_succ_cons, List.take_zero, atI0, atI1, atI2, atI3, Nat.reduceAdd, Nat.reduceSub, Int.reduceLT, Int.reduceLE, Int.reduceNeg, Int.reduceAdd, Int.reduceSub, Int.reduceMul, Nat.reduceLT, Nat.reduceLeDiff, Int.reduceEq, Int.reduceBEq, l1_law_10, noOwns_I, gGet_D, pw]
    exact ih
theorem aug_step {D : Dic} {r : Row} {c : Int} (hm : r ∈ D.map Prod.fst) (hl : D.length < 16777216) : ∀ {ρ : Slots} {i : Nat} {fi fe : P Val}, (ρ[i]?).join = some (dV true D) → fi ρ = some (.tup (encI r)) → fe ρ = some (.int c) → sAugD i fi ipSub fe ρ = .nx (ρ.set i (some (dV true (put D r (get0 D r - c))))) := fun {ρ i fi fe} h1 h2 h3 => by
  have lk := lookL_D r D
  rw [look_mem hm, Option.map_some] at lk
  have ok : (noOwn (Val.int (get0 D r - c)) && noOwns (encI (D.map Prod.snd))) = true ∧ (D.map fun p => keyI p.1).length < sizeLine := ⟨by simp only [noOwn, noOwns_I, Bool.and_self], by rw [List.length_map, sizeLine_eq]; exact hl⟩
  unfold dV at h1
  simp only [sAugD, h1, h2, keysV_I, lk, h3, ipSub_int, ok, putL_D]
  rfl
theorem loop2 {K : PySem.W.Frag} {a b c d e f g h i j : Option Val} {short back : Option Val} : ∀ (ps D : Dic) (x y : Option Val), (∀ p ∈ ps, p.1 ∈ D.map Prod.fst) → D.length + ps.length ≤ 16777215 →
    ∃ x' y', forL [6, 7] (gTn 2 (gsCons gN (gsCons gN gsNil))) (l2_law_10 K) (encT ps) [a, b, c, d, e, f, x, y, g, h, i, some (dV true D), short, back] = .nx [a, b, c, d, e, f, x', y', g, h, i, some (dV true (subD ps D)), short, back]
  | [], D, x, y, _, _ => ⟨x, y, rfl⟩
  | p :: ps, D, x, y, hm, hd => by
    simp only [List.length_cons] at hd
    have pl := put_len D p.1 (get0 D p.1 - p.2)
    obtain ⟨x', y', ih⟩ := loop2 (K := K) (a := a) (b := b) (c := c) (d := d) (e := e) (f := f) (g := g) (h := h) (i := i) (j := j) (short := short) (back := back) ps (put D p.1 (get0 D p.1 - p.2)) (some (.tup (encI p.1))) (some (.int p.2)) (fun q hq => by
      rw [put_keys]
      have := hm q (List.mem_cons_of_mem _ hq)
      split
      · exact this
      · exact List.mem_append_left _ this) (by omega)
    refine ⟨x', y', ?_⟩
    have st := aug_step (D := D) (r := p.1) (c := p.2) (hm p List.mem_cons_self) (by omega) (ρ := [a, b, c, d, e, f, some (.tup (encI p.1)), some (.int p.2), g, h, i, some (dV true D), short, back]) (i := 11) (fi := pVar 6) (fe := pVar 7) rfl rfl rfl
    rw [encT_c, forL, subD]
    simp only [sSeq_ap, sNil_ap, sIf_ap, sSet_ap, sRet_ap, sRetN_ap, sDrop_ap, sAsg_ap, sFor_ap, sAug_ap, sAugL_ap, sPut_ap, mT_ap, mTest_ap, mF_ap, mP_ap, mMove_ap, mFrz_ap, mFz_ap, sRaiseI_ap, mOp2_ap, mOp1_ap, mOpS_ap, mIx_ap, mIxL_ap, mIte_ap, mNot_ap, mAnd_ap, mOr_ap, mAndV_ap, mOrV_ap, msNil_ap, msCons_ap, psNil_ap, psCons_ap, pVar_ap, pC_ap, pOp1_ap, pOp2_ap, pOpS_ap, pTest_ap, pNot_ap, pAnd_ap, pOr_ap, pVal_ap, pAndV_ap, pOrV_ap, pIte_ap, pChain_ap, pNo_ap, poNone_ap, poSome_ap, pSl_ap, pSeq_ap, mSeq_ap, pRng_ap, mRng_ap, pComp_ap, mComp_ap, pYes_ap, pMet_ap, mMet_ap, mMeth_ap, pIsi_ap, pGet2_ap, aNil_ap, aSlot_ap, aVal_ap, mCallIO_ap, mCall_ap, mCallP_ap, mCallPB_ap, oIsN_ap, oNotN_ap, oAdd_int, oSub_int, ipAdd_int, ipSub_int, oLt_int, oLe_int, oGt_int, oGe_int, oLt_str, oLe_str, oGt_str, oGe_str, oEq_int, oNe_int, oEq_bl, oNeg_int, oSubs_lst, oSubs_tup, oIx_lst, oIx_tup, oLen_lst, oLen_tup, oIn_str, oNotIn_str, seqOf_str, seqOf_tup, seqOf_lst, startS, RS.seq_nx, RS.seq_ret, RS.seq_brk, RS.seq_ct, RS.seq_err, RS.seq_bad, L2.DL.R.bind_ok, L2.DL.R.bind_err, L2.DL.R.bind_bad, rS_ok, rS_err, rS_bad, Option.bind_some, Option.bind_none, Option.map_some, Option.map_none, Option.join_some, gN, noOwn, noOwns, noObj, noObjs, noSh, noShs, frz, frzs, List.map_cons, List.map_nil, List.getElem?_cons_zero, List.getElem?_cons_succ, List.set_cons_zero, List.set_cons_succ, List.length_cons, List.length_nil, List.cons_append, List.nil_append, List.replicate, setS_nil, setS_cons, gsNil, gsCons, gTn, Bool.and_true, Bool.true_and, Bool.and_false, Bool.false_and, Bool.or_true, Bool.true_or, Bool.or_false, Bool.false_or, Bool.not_true, Bool.not_false, Bool.and_self, if_true, if_false, Bool.false_eq_true, reduceIte, decide_true, decide_false, callIO, callPB, gatherA, backA, List.take_succ_cons, List.take_zero, atI0, atI1, atI2, atI3, Nat.reduceAdd, Nat.reduceSub, Int.reduceLT, Int.reduceLE, Int.reduceNeg, Int.reduceAdd, Int.reduceSub, Int.reduceMul, Nat.reduceLT, Nat.reduceLeDiff, Int.reduceEq, Int.reduceBEq, l2_law_10, noOwns_I, st]
    exact ih
theorem minus_spec {a b : Dic} {n : Nat} (ta : Tal a) (nb : (b.map Prod.fst).Nodup) (pb : ∀ p ∈ b, 0 < p.2) (ra : ∀ p ∈ a, p.1.length = n) (rb : ∀ p ∈ b, p.1.length = n) (hl : a.length + b.length ≤ 16777216) :
    m_law_minus [.lst false (encT a), .lst false (encT b)] = .ok (match few a b with
      | [] => .lst true (encT (lss a b))
      | q :: _ => .tup [.str "few", .tup (encI q.1)]) := by
  unfold m_law_minus fnP g_law_minus
  have ls := less_spec ta nb pb ra rb hl
  have ex : excT [("TooFew", true)] "TooFew" = some true := rfl
  cases q : few a b with
  | nil =>
    rw [q] at ls
    simp only [sSeq_ap, sNil_ap, sIf_ap, sSet_ap, sRet_ap, sRetN_ap, sDrop_ap, sAsg_ap, sFor_ap, sAug_ap, sAugL_ap, sPut_ap, mT_ap, mTest_ap, mF_ap, mP_ap, mMove_ap, mFrz_ap, mFz_ap, sRaiseI_ap, mOp2_ap, mOp1_ap, mOpS_ap, mIx_ap, mIxL_ap, mIte_ap, mNot_ap, mAnd_ap, mOr_ap, mAndV_ap, mOrV_ap, msNil_ap, msCons_ap, psNil_ap, psCons_ap, pVar_ap, pC_ap, pOp1_ap, pOp2_ap, pOpS_ap, pTest_ap, pNot_ap, pAnd_ap, pOr_ap, pVal_ap, pAndV_ap, pOrV_ap, pIte_ap, pChain_ap, pNo_ap, poNone_ap, poSome_ap, pSl_ap, pSeq_ap, mSeq_ap, pRng_ap, mRng_ap, pComp_ap, mComp_ap, pYes_ap, pMet_ap, mMet_ap, mMeth_ap, pIsi_ap, pGet2_ap, aNil_ap, aSlot_ap, aVal_ap, mCallIO_ap, mCall_ap, mCallP_ap, mCallPB_ap, oIsN_ap, oNotN_ap, oAdd_int, oSub_int, ipAdd_int, ipSub_int, oLt_int, oLe_int, oGt_int, oGe_int, oLt_str, oLe_str, oGt_str, oGe_str, oEq_int, oNe_int, oEq_bl, oNeg_int, oSubs_lst, oSubs_tup, oIx_lst, oIx_tup, oLen_lst, oLen_tup, oIn_str, oNotIn_str, seqOf_str, seqOf_tup, seqOf_lst, startS, RS.seq_nx, RS.seq_ret, RS.seq_brk, RS.seq_ct, RS.seq_err, RS.seq_bad, L2.DL.R.bind_ok, L2.DL.R.bind_err, L2.DL.R.bind_bad, rS_ok, rS_err, rS_bad, Option.bind_some, Option.bind_none, Option.map_some, Option.map_none, Option.join_some, gN, noOwn, noOwns, noObj, noObjs, noSh, noShs, frz, frzs, List.map_cons, List.map_nil, List.getElem?_cons_zero, List.getElem?_cons_succ, List.set_cons_zero, List.set_cons_succ, List.length_cons, List.length_nil, List.cons_append, List.nil_append, List.replicate, setS_nil, setS_cons, gsNil, gsCons, gTn, Bool.and_true, Bool.true_and, Bool.and_false, Bool.false_and, Bool.or_true, Bool.true_or, Bool.or_false, Bool.false_or, Bool.not_true, Bool.not_false, Bool.and_self, if_true, if_false, Bool.false_eq_true, reduceIte, decide_true, decide_false, callIO, callPB, gatherA, backA, List.take_succ_cons, List.take_zero, atI0, atI1, atI2, atI3, Nat.reduceAdd, Nat.reduceSub, Int.reduceLT, Int.reduceLE, Int.reduceNeg, Int.reduceAdd, Int.reduceSub, Int.reduceMul, Nat.reduceLT, Nat.reduceLeDiff, Int.reduceEq, Int.reduceBEq, sTryAs, noOwns_T, noObjs_T, frzs_T, ls, noShs_T]
  | cons p qs =>
    rw [q] at ls
    have c1 : ("TooFew" = "TooFew" ∧ "row" = "row" ∧ 3 < 4) = True := by simp
    simp only [sSeq_ap, sNil_ap, sIf_ap, sSet_ap, sRet_ap, sRetN_ap, sDrop_ap, sAsg_ap, sFor_ap, sAug_ap, sAugL_ap, sPut_ap, mT_ap, mTest_ap, mF_ap, mP_ap, mMove_ap, mFrz_ap, mFz_ap, sRaiseI_ap, mOp2_ap, mOp1_ap, mOpS_ap, mIx_ap, mIxL_ap, mIte_ap, mNot_ap, mAnd_ap, mOr_ap, mAndV_ap, mOrV_ap, msNil_ap, msCons_ap, psNil_ap, psCons_ap, pVar_ap, pC_ap, pOp1_ap, pOp2_ap, pOpS_ap, pTest_ap, pNot_ap, pAnd_ap, pOr_ap, pVal_ap, pAndV_ap, pOrV_ap, pIte_ap, pChain_ap, pNo_ap, poNone_ap, poSome_ap, pSl_ap, pSeq_ap, mSeq_ap, pRng_ap, mRng_ap, pComp_ap, mComp_ap, pYes_ap, pMet_ap, mMet_ap, mMeth_ap, pIsi_ap, pGet2_ap, aNil_ap, aSlot_ap, aVal_ap, mCallIO_ap, mCall_ap, mCallP_ap, mCallPB_ap, oIsN_ap, oNotN_ap, oAdd_int, oSub_int, ipAdd_int, ipSub_int, oLt_int, oLe_int, oGt_int, oGe_int, oLt_str, oLe_str, oGt_str, oGe_str, oEq_int, oNe_int, oEq_bl, oNeg_int, oSubs_lst, oSubs_tup, oIx_lst, oIx_tup, oLen_lst, oLen_tup, oIn_str, oNotIn_str, seqOf_str, seqOf_tup, seqOf_lst, startS, RS.seq_nx, RS.seq_ret, RS.seq_brk, RS.seq_ct, RS.seq_err, RS.seq_bad, L2.DL.R.bind_ok, L2.DL.R.bind_err, L2.DL.R.bind_bad, rS_ok, rS_err, rS_bad, Option.bind_some, Option.bind_none, Option.map_some, Option.map_none, Option.join_some, gN, noOwn, noOwns, noObj, noObjs, noSh, noShs, frz, frzs, List.map_cons, List.map_nil, List.getElem?_cons_zero, List.getElem?_cons_succ, List.set_cons_zero, List.set_cons_succ, List.length_cons, List.length_nil, List.cons_append, List.nil_append, List.replicate, setS_nil, setS_cons, gsNil, gsCons, gTn, Bool.and_true, Bool.true_and, Bool.and_false, Bool.false_and, Bool.or_true, Bool.true_or, Bool.or_false, Bool.false_or, Bool.not_true, Bool.not_false, Bool.and_self, if_true, if_false, Bool.false_eq_true, reduceIte, decide_true, decide_false, callIO, callPB, gatherA, backA, List.take_succ_cons, List.take_zero, atI0, atI1, atI2, atI3, Nat.reduceAdd, Nat.reduceSub, Int.reduceLT, Int.reduceLE, Int.reduceNeg, Int.reduceAdd, Int.reduceSub, Int.reduceMul, Nat.reduceLT, Nat.reduceLeDiff, Int.reduceEq, Int.reduceBEq, sTryAs, ex, noOwns_T, noObjs_T, frzs_T, ls, plSh, noShs_I, and_self]
theorem law_true (K : PySem.W.Frag) (ns : List Int) (_ : ns.length ≤ 63) : m_law_10 K [.scr K ns] = .ok (.bl true) := by
  obtain ⟨nums, salt, cb⟩ := bag_call K ns
  obtain ⟨at2, left2, r2, h2, h20, h21, e2⟩ := pull_spec (nums := nums) (at_ := 0) (left := 0) (salt := salt) (many := 7) (by decide) (by decide) (by decide)
  obtain ⟨at3, left3, ss0, h3, hl, hs, e3⟩ := names_spec (nums := nums) (left := left2) (salt := salt) (many := r2) h2 h20 (by omega)
  have hl2 : (sortN ss0).length = ss0.length := (sortN_perm ss0).length_eq
  generalize hss : sortN ss0 = room at *
  have R := roomV_tpz room
  obtain ⟨at4, left4, D1, h4, kD1, lD1, e4⟩ := drawn_spec (nums := nums) (left := left3) (salt := salt) R.len (by omega) h3
  have kT1 := kD1.tal (by decide)
  have T1 := tal_settle kD1.nd
  have l1 : (settle D1).length ≤ 40 := Nat.le_trans settle_len lD1
  generalize settle D1 = one at *
  obtain ⟨at5, left5, D2, h5, kD2, lD2, e5⟩ := drawn_spec (nums := nums) (left := left4) (salt := salt) R.len (by omega) h4
  have kT2 := kD2.tal (by decide)
  have T2 := tal_settle kD2.nd
  have l2 : (settle D2).length ≤ 40 := Nat.le_trans settle_len lD2
  generalize settle D2 = other0 at *
  obtain ⟨at6, left6, r6, h6, h60, h61, e6⟩ := pull_spec (nums := nums) (left := left5) (salt := salt) (many := 2) h5 (by decide) (by decide)
  obtain ⟨other1, at7, left7, h7, l7, s7, c7, e7⟩ := part_loop8 (nums := nums) (salt := salt) (s := .scr K ns) (rm := .tpz (encN room)) (one := .lst false (encT one)) (other := .lst false (encT other0)) one [] at6 left6 h6 kT1.cnt (by simp only [List.length_nil]; omega)
  rw [List.nil_append] at e7
  have r1 : ∀ p ∈ one, p.1.length = room.length := fun p hp => (kT1.row p hp).1
  have n1 : ∀ p ∈ one, 1 ≤ p.2 := fun p hp => (kT1.cnt p hp).1
  have c1 : oEq (.int r6) (.int 1) = some (.bl (decide (r6 = 1))) := by rw [oEq_int]; congr 2
  unfold m_law_10
  refine To.fnP ?_
  unfold g_law_10
  refine To.seq (m := fun ρ => ρ = [some (.scr K ns), some (bagV nums 0 0 salt), none, none, none, none, none, none, none, none, none, none, none, none]) (To.nxt (by simp only [sSeq_ap, sNil_ap, sIf_ap, sSet_ap, sRet_ap, sRetN_ap, sDrop_ap, sAsg_ap, sFor_ap, sAug_ap, sAugL_ap, sPut_ap, mT_ap, mTest_ap, mF_ap, mP_ap, mMove_ap, mFrz_ap, mFz_ap, sRaiseI_ap, mOp2_ap, mOp1_ap, mOpS_ap, mIx_ap, mIxL_ap, mIte_ap, mNot_ap, mAnd_ap, mOr_ap, mAndV_ap, mOrV_ap, msNil_ap, msCons_ap, psNil_ap, psCons_ap, pVar_ap, pC_ap, pOp1_ap, pOp2_ap, pOpS_ap, pTest_ap, pNot_ap, pAnd_ap, pOr_ap, pVal_ap, pAndV_ap, pOrV_ap, pIte_ap, pChain_ap, pNo_ap, poNone_ap, poSome_ap, pSl_ap, pSeq_ap, mSeq_ap, pRng_ap, mRng_ap, pComp_ap, mComp_ap, pYes_ap, pMet_ap, mMet_ap, mMeth_ap, pIsi_ap, pGet2_ap, aNil_ap, aSlot_ap, aVal_ap, mCallIO_ap, mCall_ap, mCallP_ap, mCallPB_ap, oIsN_ap, oNotN_ap, oAdd_int, oSub_int, ipAdd_int, ipSub_int, oLt_int, oLe_int, oGt_int, oGe_int, oLt_str, oLe_str, oGt_str, oGe_str, oEq_int, oNe_int, oEq_bl, oNeg_int, oSubs_lst, oSubs_tup, oIx_lst, oIx_tup, oLen_lst, oLen_tup, oIn_str, oNotIn_str, seqOf_str, seqOf_tup, seqOf_lst, startS, RS.seq_nx, RS.seq_ret, RS.seq_brk, RS.seq_ct, RS.seq_err, RS.seq_bad, L2.DL.R.bind_ok, L2.DL.R.bind_err, L2.DL.R.bind_bad, rS_ok, rS_err, rS_bad, Option.bind_some, Option.bind_none, Option.map_some, Option.map_none, Option.join_some, gN, noOwn, noOwns, noObj, noObjs, noSh, noShs, frz, frzs, List.map_cons, List.map_nil, List.getElem?_cons_zero, List.getElem?_cons_succ, List.set_cons_zero, List.set_cons_succ, List.length_cons, List.length_nil, List.cons_append, List.nil_append, List.replicate, setS_nil, setS_cons, gsNil, gsCons, gTn, Bool.and_true, Bool.true_and, Bool.and_false, Bool.false_and, Bool.or_true, Bool.true_or, Bool.or_false, Bool.false_or, Bool.not_true, Bool.not_false, Bool.and_self, if_true, if_false, Bool.false_eq_true, reduceIte, decide_true, decide_false, callIO, callPB, gatherA, backA, List.take_succ_cons, List.take_zero, atI0, atI1, atI2, atI3, Nat.reduceAdd, Nat.reduceSub, Int.reduceLT, Int.reduceLE, Int.reduceNeg, Int.reduceAdd, Int.reduceSub, Int.reduceMul, Nat.reduceLT, Nat.reduceLeDiff, Int.reduceEq, Int.reduceBEq, cb]) rfl) ?_
  rintro _ rfl
  refine To.seq (m := fun ρ => ρ = [some (.scr K ns), some (bagV nums at3 left3 salt), some (.tpz (encN room)), none, none, none, none, none, none, none, none, none, none, none]) (To.nxt (by simp only [sSeq_ap, sNil_ap, sIf_ap, sSet_ap, sRet_ap, sRetN_ap, sDrop_ap, sAsg_ap, sFor_ap, sAug_ap, sAugL_ap, sPut_ap, mT_ap, mTest_ap, mF_ap, mP_ap, mMove_ap, mFrz_ap, mFz_ap, sRaiseI_ap, mOp2_ap, mOp1_ap, mOpS_ap, mIx_ap, mIxL_ap, mIte_ap, mNot_ap, mAnd_ap, mOr_ap, mAndV_ap, mOrV_ap, msNil_ap, msCons_ap, psNil_ap, psCons_ap, pVar_ap, pC_ap, pOp1_ap, pOp2_ap, pOpS_ap, pTest_ap, pNot_ap, pAnd_ap, pOr_ap, pVal_ap, pAndV_ap, pOrV_ap, pIte_ap, pChain_ap, pNo_ap, poNone_ap, poSome_ap, pSl_ap, pSeq_ap, mSeq_ap, pRng_ap, mRng_ap, pComp_ap, mComp_ap, pYes_ap, pMet_ap, mMet_ap, mMeth_ap, pIsi_ap, pGet2_ap, aNil_ap, aSlot_ap, aVal_ap, mCallIO_ap, mCall_ap, mCallP_ap, mCallPB_ap, oIsN_ap, oNotN_ap, oAdd_int, oSub_int, ipAdd_int, ipSub_int, oLt_int, oLe_int, oGt_int, oGe_int, oLt_str, oLe_str, oGt_str, oGe_str, oEq_int, oNe_int, oEq_bl, oNeg_int, oSubs_lst, oSubs_tup, oIx_lst, oIx_tup, oLen_lst, oLen_tup, oIn_str, oNotIn_str, seqOf_str, seqOf_tup, seqOf_lst, startS, RS.seq_nx, RS.seq_ret, RS.seq_brk, RS.seq_ct, RS.seq_err, RS.seq_bad, L2.DL.R.bind_ok, L2.DL.R.bind_err, L2.DL.R.bind_bad, rS_ok, rS_err, rS_bad, Option.bind_some, Option.bind_none, Option.map_some, Option.map_none, Option.join_some, gN, noOwn, noOwns, noObj, noObjs, noSh, noShs, frz, frzs, List.map_cons, List.map_nil, List.getElem?_cons_zero, List.getElem?_cons_succ, List.set_cons_zero, List.set_cons_succ, List.length_cons, List.length_nil, List.cons_append, List.nil_append, List.replicate, setS_nil, setS_cons, gsNil, gsCons, gTn, Bool.and_true, Bool.true_and, Bool.and_false, Bool.false_and, Bool.or_true, Bool.true_or, Bool.or_false, Bool.false_or, Bool.not_true, Bool.not_false, Bool.and_self, if_true, if_false, Bool.false_eq_true, reduceIte, decide_true, decide_false, callIO, callPB, gatherA, backA, List.take_succ_cons, List.take_zero, atI0, atI1, atI2, atI3, Nat.reduceAdd, Nat.reduceSub, Int.reduceLT, Int.reduceLE, Int.reduceNeg, Int.reduceAdd, Int.reduceSub, Int.reduceMul, Nat.reduceLT, Nat.reduceLeDiff, Int.reduceEq, Int.reduceBEq, e2, e3, oSorted_N, hss, oTupleZ_N]) rfl) ?_
  rintro _ rfl
  refine To.seq (m := fun ρ => ρ = [some (.scr K ns), some (bagV nums at4 left4 salt), some (.tpz (encN room)), some (.lst false (encT one)), none, none, none, none, none, none, none, none, none, none]) (To.nxt (by simp only [sSeq_ap, sNil_ap, sIf_ap, sSet_ap, sRet_ap, sRetN_ap, sDrop_ap, sAsg_ap, sFor_ap, sAug_ap, sAugL_ap, sPut_ap, mT_ap, mTest_ap, mF_ap, mP_ap, mMove_ap, mFrz_ap, mFz_ap, sRaiseI_ap, mOp2_ap, mOp1_ap, mOpS_ap, mIx_ap, mIxL_ap, mIte_ap, mNot_ap, mAnd_ap, mOr_ap, mAndV_ap, mOrV_ap, msNil_ap, msCons_ap, psNil_ap, psCons_ap, pVar_ap, pC_ap, pOp1_ap, pOp2_ap, pOpS_ap, pTest_ap, pNot_ap, pAnd_ap, pOr_ap, pVal_ap, pAndV_ap, pOrV_ap, pIte_ap, pChain_ap, pNo_ap, poNone_ap, poSome_ap, pSl_ap, pSeq_ap, mSeq_ap, pRng_ap, mRng_ap, pComp_ap, mComp_ap, pYes_ap, pMet_ap, mMet_ap, mMeth_ap, pIsi_ap, pGet2_ap, aNil_ap, aSlot_ap, aVal_ap, mCallIO_ap, mCall_ap, mCallP_ap, mCallPB_ap, oIsN_ap, oNotN_ap, oAdd_int, oSub_int, ipAdd_int, ipSub_int, oLt_int, oLe_int, oGt_int, oGe_int, oLt_str, oLe_str, oGt_str, oGe_str, oEq_int, oNe_int, oEq_bl, oNeg_int, oSubs_lst, oSubs_tup, oIx_lst, oIx_tup, oLen_lst, oLen_tup, oIn_str, oNotIn_str, seqOf_str, seqOf_tup, seqOf_lst, startS, RS.seq_nx, RS.seq_ret, RS.seq_brk, RS.seq_ct, RS.seq_err, RS.seq_bad, L2.DL.R.bind_ok, L2.DL.R.bind_err, L2.DL.R.bind_bad, rS_ok, rS_err, rS_bad, Option.bind_some, Option.bind_none, Option.map_some, Option.map_none, Option.join_some, gN, noOwn, noOwns, noObj, noObjs, noSh, noShs, frz, frzs, List.map_cons, List.map_nil, List.getElem?_cons_zero, List.getElem?_cons_succ, List.set_cons_zero, List.set_cons_succ, List.length_cons, List.length_nil, List.cons_append, List.nil_append, List.replicate, setS_nil, setS_cons, gsNil, gsCons, gTn, Bool.and_true, Bool.true_and, Bool.and_false, Bool.false_and, Bool.or_true, Bool.true_or, Bool.or_false, Bool.false_or, Bool.not_true, Bool.not_false, Bool.and_self, if_true, if_false, Bool.false_eq_true, reduceIte, decide_true, decide_false, callIO, callPB, gatherA, backA, List.take_succ_cons, List.take_zero, atI0, atI1, atI2, atI3, Nat.reduceAdd, Nat.reduceSub, Int.reduceLT, Int.reduceLE, Int.reduceNeg, Int.reduceAdd, Int.reduceSub, Int.reduceMul, Nat.reduceLT, Nat.reduceLeDiff, Int.reduceEq, Int.reduceBEq, e4, noObjs_T, frzs_T]) rfl) ?_
  rintro _ rfl
  refine To.seq (m := fun ρ => ρ = [some (.scr K ns), some (bagV nums at5 left5 salt), some (.tpz (encN room)), some (.lst false (encT one)), some (.lst false (encT other0)), none, none, none, none, none, none, none, none, none]) (To.nxt (by simp only [sSeq_ap, sNil_ap, sIf_ap, sSet_ap, sRet_ap, sRetN_ap, sDrop_ap, sAsg_ap, sFor_ap, sAug_ap, sAugL_ap, sPut_ap, mT_ap, mTest_ap, mF_ap, mP_ap, mMove_ap, mFrz_ap, mFz_ap, sRaiseI_ap, mOp2_ap, mOp1_ap, mOpS_ap, mIx_ap, mIxL_ap, mIte_ap, mNot_ap, mAnd_ap, mOr_ap, mAndV_ap, mOrV_ap, msNil_ap, msCons_ap, psNil_ap, psCons_ap, pVar_ap, pC_ap, pOp1_ap, pOp2_ap, pOpS_ap, pTest_ap, pNot_ap, pAnd_ap, pOr_ap, pVal_ap, pAndV_ap, pOrV_ap, pIte_ap, pChain_ap, pNo_ap, poNone_ap, poSome_ap, pSl_ap, pSeq_ap, mSeq_ap, pRng_ap, mRng_ap, pComp_ap, mComp_ap, pYes_ap, pMet_ap, mMet_ap, mMeth_ap, pIsi_ap, pGet2_ap, aNil_ap, aSlot_ap, aVal_ap, mCallIO_ap, mCall_ap, mCallP_ap, mCallPB_ap, oIsN_ap, oNotN_ap, oAdd_int, oSub_int, ipAdd_int, ipSub_int, oLt_int, oLe_int, oGt_int, oGe_int, oLt_str, oLe_str, oGt_str, oGe_str, oEq_int, oNe_int, oEq_bl, oNeg_int, oSubs_lst, oSubs_tup, oIx_lst, oIx_tup, oLen_lst, oLen_tup, oIn_str, oNotIn_str, seqOf_str, seqOf_tup, seqOf_lst, startS, RS.seq_nx, RS.seq_ret, RS.seq_brk, RS.seq_ct, RS.seq_err, RS.seq_bad, L2.DL.R.bind_ok, L2.DL.R.bind_err, L2.DL.R.bind_bad, rS_ok, rS_err, rS_bad, Option.bind_some, Option.bind_none, Option.map_some, Option.map_none, Option.join_some, gN, noOwn, noOwns, noObj, noObjs, noSh, noShs, frz, frzs, List.map_cons, List.map_nil, List.getElem?_cons_zero, List.getElem?_cons_succ, List.set_cons_zero, List.set_cons_succ, List.length_cons, List.length_nil, List.cons_append, List.nil_append, List.replicate, setS_nil, setS_cons, gsNil, gsCons, gTn, Bool.and_true, Bool.true_and, Bool.and_false, Bool.false_and, Bool.or_true, Bool.true_or, Bool.or_false, Bool.false_or, Bool.not_true, Bool.not_false, Bool.and_self, if_true, if_false, Bool.false_eq_true, reduceIte, decide_true, decide_false, callIO, callPB, gatherA, backA, List.take_succ_cons, List.take_zero, atI0, atI1, atI2, atI3, Nat.reduceAdd, Nat.reduceSub, Int.reduceLT, Int.reduceLE, Int.reduceNeg, Int.reduceAdd, Int.reduceSub, Int.reduceMul, Nat.reduceLT, Nat.reduceLeDiff, Int.reduceEq, Int.reduceBEq, e5, noObjs_T, frzs_T]) rfl) ?_
  rintro _ rfl
  refine To.seq (m := fun ρ => ∃ b o other, Tal other ∧ (∀ p ∈ other, p.1.length = room.length) ∧ (∀ p ∈ other, 1 ≤ p.2) ∧ other.length ≤ 40 ∧ ρ = [some (.scr K ns), b, some (.tpz (encN room)), some (.lst false (encT one)), some (.lst o (encT other)), none, none, none, none, none, none, none, none, none]) ?_ ?_
  · by_cases hw : r6 = 1
    · simp only [hw, decide_true] at c1 e6
      have e7' : compM [6, 7] [6, 7] (gTn 2 (gsCons gN (gsCons gN gsNil))) (mTest (mOp2 oGt (mCallIO (m_law_pull) (aSlot 1 (aVal (mF (pC (.int 3))) aNil))) (mF (pC (.int 0))))) (mOpS gTupM (msCons (mP (pVar 6)) (msCons (mOp2 oAdd (mF (pC (.int 1))) (mCallIO (m_law_pull) (aSlot 1 (aSlot 7 aNil)))) msNil))) (encT one) [] [some (.scr K ns), some (bagV nums at6 left6 salt), some (.tpz (encN room)), some (.lst false (encT one)), some (.lst false (encT other0)), none, none, none, none, none, none, none, none, none] = _ := e7
      refine To.nxt (by simp only [sSeq_ap, sNil_ap, sIf_ap, sSet_ap, sRet_ap, sRetN_ap, sDrop_ap, sAsg_ap, sFor_ap, sAug_ap, sAugL_ap, sPut_ap, mT_ap, mTest_ap, mF_ap, mP_ap, mMove_ap, mFrz_ap, mFz_ap, sRaiseI_ap, mOp2_ap, mOp1_ap, mOpS_ap, mIx_ap, mIxL_ap, mIte_ap, mNot_ap, mAnd_ap, mOr_ap, mAndV_ap, mOrV_ap, msNil_ap, msCons_ap, psNil_ap, psCons_ap, pVar_ap, pC_ap, pOp1_ap, pOp2_ap, pOpS_ap, pTest_ap, pNot_ap, pAnd_ap, pOr_ap, pVal_ap, pAndV_ap, pOrV_ap, pIte_ap, pChain_ap, pNo_ap, poNone_ap, poSome_ap, pSl_ap, pSeq_ap, mSeq_ap, pRng_ap, mRng_ap, pComp_ap, mComp_ap, pYes_ap, pMet_ap, mMet_ap, mMeth_ap, pIsi_ap, pGet2_ap, aNil_ap, aSlot_ap, aVal_ap, mCallIO_ap, mCall_ap, mCallP_ap, mCallPB_ap, oIsN_ap, oNotN_ap, oAdd_int, oSub_int, ipAdd_int, ipSub_int, oLt_int, oLe_int, oGt_int, oGe_int, oLt_str, oLe_str, oGt_str, oGe_str, oEq_int, oNe_int, oEq_bl, oNeg_int, oSubs_lst, oSubs_tup, oIx_lst, oIx_tup, oLen_lst, oLen_tup, oIn_str, oNotIn_str, seqOf_str, seqOf_tup, seqOf_lst, startS, RS.seq_nx, RS.seq_ret, RS.seq_brk, RS.seq_ct, RS.seq_err, RS.seq_bad, L2.DL.R.bind_ok, L2.DL.R.bind_err, L2.DL.R.bind_bad, rS_ok, rS_err, rS_bad, Option.bind_some, Option.bind_none, Option.map_some, Option.map_none, Option.join_some, gN, noOwn, noOwns, noObj, noObjs, noSh, noShs, frz, frzs, List.map_cons, List.map_nil, List.getElem?_cons_zero, List.getElem?_cons_succ, List.set_cons_zero, List.set_cons_succ, List.length_cons, List.length_nil, List.cons_append, List.nil_append, List.replicate, setS_nil, setS_cons, gsNil, gsCons, gTn, Bool.and_true, Bool.true_and, Bool.and_false, Bool.false_and, Bool.or_true, Bool.true_or, Bool.or_false, Bool.false_or, Bool.not_true, Bool.not_false, Bool.and_self, if_true, if_false, Bool.false_eq_true, reduceIte, decide_true, decide_false, callIO, callPB, gatherA, backA, List.take_succ_cons, List.take_zero, atI0, atI1, atI2, atI3, Nat.reduceAdd, Nat.reduceSub, Int.reduceLT, Int.reduceLE, Int.reduceNeg, Int.reduceAdd, Int.reduceSub, Int.reduceMul, Nat.reduceLT, Nat.reduceLeDiff, Int.reduceEq, Int.reduceBEq, e6, c1, noOwns_T, w67, e7'] <;> rfl) ⟨_, _, other1, ⟨s7.nodup T1.nd, T1.st.sublist s7, fun p hp => by have := (c7 p hp).1; omega⟩, fun p hp => ?_, fun p hp => (c7 p hp).1, by omega, rfl⟩
      have : p.1 ∈ one.map Prod.fst := s7.subset (List.mem_map.mpr ⟨p, hp, rfl⟩)
      obtain ⟨q, hq, eq⟩ := List.mem_map.mp this
      rw [← eq]; exact r1 q hq
    · simp only [hw, decide_false] at c1
      exact To.nxt (by simp only [sSeq_ap, sNil_ap, sIf_ap, sSet_ap, sRet_ap, sRetN_ap, sDrop_ap, sAsg_ap, sFor_ap, sAug_ap, sAugL_ap, sPut_ap, mT_ap, mTest_ap, mF_ap, mP_ap, mMove_ap, mFrz_ap, mFz_ap, sRaiseI_ap, mOp2_ap, mOp1_ap, mOpS_ap, mIx_ap, mIxL_ap, mIte_ap, mNot_ap, mAnd_ap, mOr_ap, mAndV_ap, mOrV_ap, msNil_ap, msCons_ap, psNil_ap, psCons_ap, pVar_ap, pC_ap, pOp1_ap, pOp2_ap, pOpS_ap, pTest_ap, pNot_ap, pAnd_ap, pOr_ap, pVal_ap, pAndV_ap, pOrV_ap, pIte_ap, pChain_ap, pNo_ap, poNone_ap, poSome_ap, pSl_ap, pSeq_ap, mSeq_ap, pRng_ap, mRng_ap, pComp_ap, mComp_ap, pYes_ap, pMet_ap, mMet_ap, mMeth_ap, pIsi_ap, pGet2_ap, aNil_ap, aSlot_ap, aVal_ap, mCallIO_ap, mCall_ap, mCallP_ap, mCallPB_ap, oIsN_ap, oNotN_ap, oAdd_int, oSub_int, ipAdd_int, ipSub_int, oLt_int, oLe_int, oGt_int, oGe_int, oLt_str, oLe_str, oGt_str, oGe_str, oEq_int, oNe_int, oEq_bl, oNeg_int, oSubs_lst, oSubs_tup, oIx_lst, oIx_tup, oLen_lst, oLen_tup, oIn_str, oNotIn_str, seqOf_str, seqOf_tup, seqOf_lst, startS, RS.seq_nx, RS.seq_ret, RS.seq_brk, RS.seq_ct, RS.seq_err, RS.seq_bad, L2.DL.R.bind_ok, L2.DL.R.bind_err, L2.DL.R.bind_bad, rS_ok, rS_err, rS_bad, Option.bind_some, Option.bind_none, Option.map_some, Option.map_none, Option.join_some, gN, noOwn, noOwns, noObj, noObjs, noSh, noShs, frz, frzs, List.map_cons, List.map_nil, List.getElem?_cons_zero, List.getElem?_cons_succ, List.set_cons_zero, List.set_cons_succ, List.length_cons, List.length_nil, List.cons_append, List.nil_append, List.replicate, setS_nil, setS_cons, gsNil, gsCons, gTn, Bool.and_true, Bool.true_and, Bool.and_false, Bool.false_and, Bool.or_true, Bool.true_or, Bool.or_false, Bool.false_or, Bool.not_true, Bool.not_false, Bool.and_self, if_true, if_false, Bool.false_eq_true, reduceIte, decide_true, decide_false, callIO, callPB, gatherA, backA, List.take_succ_cons, List.take_zero, atI0, atI1, atI2, atI3, Nat.reduceAdd, Nat.reduceSub, Int.reduceLT, Int.reduceLE, Int.reduceNeg, Int.reduceAdd, Int.reduceSub, Int.reduceMul, Nat.reduceLT, Nat.reduceLeDiff, Int.reduceEq, Int.reduceBEq, e6, c1] <;> rfl) ⟨_, _, other0, T2, fun p hp => (kT2.row p hp).1, fun p hp => (kT2.cnt p hp).1, l2, rfl⟩
  rintro _ ⟨b, o, other, TO, ro, no, lo, rfl⟩
  clear e7 s7 c7 l7 e6 c1 kT2 T2 l2 kD2
  have od := oDict_T false one
  rw [cntd_eq T1.nd] at od
  refine To.seq (m := fun ρ => ρ = [some (.scr K ns), b, some (.tpz (encN room)), some (.lst false (encT one)), some (.lst o (encT other)), some (dV true one), none, none, none, none, none, none, none, none]) (To.nxt (by simp only [sSeq_ap, sNil_ap, sIf_ap, sSet_ap, sRet_ap, sRetN_ap, sDrop_ap, sAsg_ap, sFor_ap, sAug_ap, sAugL_ap, sPut_ap, mT_ap, mTest_ap, mF_ap, mP_ap, mMove_ap, mFrz_ap, mFz_ap, sRaiseI_ap, mOp2_ap, mOp1_ap, mOpS_ap, mIx_ap, mIxL_ap, mIte_ap, mNot_ap, mAnd_ap, mOr_ap, mAndV_ap, mOrV_ap, msNil_ap, msCons_ap, psNil_ap, psCons_ap, pVar_ap, pC_ap, pOp1_ap, pOp2_ap, pOpS_ap, pTest_ap, pNot_ap, pAnd_ap, pOr_ap, pVal_ap, pAndV_ap, pOrV_ap, pIte_ap, pChain_ap, pNo_ap, poNone_ap, poSome_ap, pSl_ap, pSeq_ap, mSeq_ap, pRng_ap, mRng_ap, pComp_ap, mComp_ap, pYes_ap, pMet_ap, mMet_ap, mMeth_ap, pIsi_ap, pGet2_ap, aNil_ap, aSlot_ap, aVal_ap, mCallIO_ap, mCall_ap, mCallP_ap, mCallPB_ap, oIsN_ap, oNotN_ap, oAdd_int, oSub_int, ipAdd_int, ipSub_int, oLt_int, oLe_int, oGt_int, oGe_int, oLt_str, oLe_str, oGt_str, oGe_str, oEq_int, oNe_int, oEq_bl, oNeg_int, oSubs_lst, oSubs_tup, oIx_lst, oIx_tup, oLen_lst, oLen_tup, oIn_str, oNotIn_str, seqOf_str, seqOf_tup, seqOf_lst, startS, RS.seq_nx, RS.seq_ret, RS.seq_brk, RS.seq_ct, RS.seq_err, RS.seq_bad, L2.DL.R.bind_ok, L2.DL.R.bind_err, L2.DL.R.bind_bad, rS_ok, rS_err, rS_bad, Option.bind_some, Option.bind_none, Option.map_some, Option.map_none, Option.join_some, gN, noOwn, noOwns, noObj, noObjs, noSh, noShs, frz, frzs, List.map_cons, List.map_nil, List.getElem?_cons_zero, List.getElem?_cons_succ, List.set_cons_zero, List.set_cons_succ, List.length_cons, List.length_nil, List.cons_append, List.nil_append, List.replicate, setS_nil, setS_cons, gsNil, gsCons, gTn, Bool.and_true, Bool.true_and, Bool.and_false, Bool.false_and, Bool.or_true, Bool.true_or, Bool.or_false, Bool.false_or, Bool.not_true, Bool.not_false, Bool.and_self, if_true, if_false, Bool.false_eq_true, reduceIte, decide_true, decide_false, callIO, callPB, gatherA, backA, List.take_succ_cons, List.take_zero, atI0, atI1, atI2, atI3, Nat.reduceAdd, Nat.reduceSub, Int.reduceLT, Int.reduceLE, Int.reduceNeg, Int.reduceAdd, Int.reduceSub, Int.reduceMul, Nat.reduceLT, Nat.reduceLeDiff, Int.reduceEq, Int.reduceBEq, od]) rfl) ?_
  rintro _ rfl
  obtain ⟨x', y', el⟩ := loop1 (K := K) (a := some (.scr K ns)) (b := b) (c := some (.tpz (encN room))) (d := some (.lst false (encT one))) (e := some (.lst false (encT other))) other one none none (by omega)
  refine To.seq (m := fun ρ => ρ = [some (.scr K ns), b, some (.tpz (encN room)), some (.lst false (encT one)), some (.lst false (encT other)), some (dV true (accD id other one)), x', y', none, none, none, none, none, none]) (To.nxt (by simp only [sSeq_ap, sNil_ap, sIf_ap, sSet_ap, sRet_ap, sRetN_ap, sDrop_ap, sAsg_ap, sFor_ap, sAug_ap, sAugL_ap, sPut_ap, mT_ap, mTest_ap, mF_ap, mP_ap, mMove_ap, mFrz_ap, mFz_ap, sRaiseI_ap, mOp2_ap, mOp1_ap, mOpS_ap, mIx_ap, mIxL_ap, mIte_ap, mNot_ap, mAnd_ap, mOr_ap, mAndV_ap, mOrV_ap, msNil_ap, msCons_ap, psNil_ap, psCons_ap, pVar_ap, pC_ap, pOp1_ap, pOp2_ap, pOpS_ap, pTest_ap, pNot_ap, pAnd_ap, pOr_ap, pVal_ap, pAndV_ap, pOrV_ap, pIte_ap, pChain_ap, pNo_ap, poNone_ap, poSome_ap, pSl_ap, pSeq_ap, mSeq_ap, pRng_ap, mRng_ap, pComp_ap, mComp_ap, pYes_ap, pMet_ap, mMet_ap, mMeth_ap, pIsi_ap, pGet2_ap, aNil_ap, aSlot_ap, aVal_ap, mCallIO_ap, mCall_ap, mCallP_ap, mCallPB_ap, oIsN_ap, oNotN_ap, oAdd_int, oSub_int, ipAdd_int, ipSub_int, oLt_int, oLe_int, oGt_int, oGe_int, oLt_str, oLe_str, oGt_str, oGe_str, oEq_int, oNe_int, oEq_bl, oNeg_int, oSubs_lst, oSubs_tup, oIx_lst, oIx_tup, oLen_lst, oLen_tup, oIn_str, oNotIn_str, seqOf_str, seqOf_tup, seqOf_lst, startS, RS.seq_nx, RS.seq_ret, RS.seq_brk, RS.seq_ct, RS.seq_err, RS.seq_bad, L2.DL.R.bind_ok, L2.DL.R.bind_err, L2.DL.R.bind_bad, rS_ok, rS_err, rS_bad, Option.bind_some, Option.bind_none, Option.map_some, Option.map_none, Option.join_some, gN, noOwn, noOwns, noObj, noObjs, noSh, noShs, frz, frzs, List.map_cons, List.map_nil, List.getElem?_cons_zero, List.getElem?_cons_succ, List.set_cons_zero, List.set_cons_succ, List.length_cons, List.length_nil, List.cons_append, List.nil_append, List.replicate, setS_nil, setS_cons, gsNil, gsCons, gTn, Bool.and_true, Bool.true_and, Bool.and_false, Bool.false_and, Bool.or_true, Bool.true_or, Bool.or_false, Bool.false_or, Bool.not_true, Bool.not_false, Bool.and_self, if_true, if_false, Bool.false_eq_true, reduceIte, decide_true, decide_false, callIO, callPB, gatherA, backA, List.take_succ_cons, List.take_zero, atI0, atI1, atI2, atI3, Nat.reduceAdd, Nat.reduceSub, Int.reduceLT, Int.reduceLE, Int.reduceNeg, Int.reduceAdd, Int.reduceSub, Int.reduceMul, Nat.reduceLT, Nat.reduceLeDiff, Int.reduceEq, Int.reduceBEq, noObjs_T, frzs_T, noOwns_T, el]) rfl) ?_
  rintro _ rfl
  refine To.seq (m := fun ρ => ρ = [some (.scr K ns), b, some (.tpz (encN room)), some (.lst false (encT one)), some (.lst false (encT other)), some (dV true (accD id other one)), x', y', some (.lst true [.lst true (encT one), .lst true (encT other)]), none, none, none, none, none]) (To.nxt (by simp only [sSeq_ap, sNil_ap, sIf_ap, sSet_ap, sRet_ap, sRetN_ap, sDrop_ap, sAsg_ap, sFor_ap, sAug_ap, sAugL_ap, sPut_ap, mT_ap, mTest_ap, mF_ap, mP_ap, mMove_ap, mFrz_ap, mFz_ap, sRaiseI_ap, mOp2_ap, mOp1_ap, mOpS_ap, mIx_ap, mIxL_ap, mIte_ap, mNot_ap, mAnd_ap, mOr_ap, mAndV_ap, mOrV_ap, msNil_ap, msCons_ap, psNil_ap, psCons_ap, pVar_ap, pC_ap, pOp1_ap, pOp2_ap, pOpS_ap, pTest_ap, pNot_ap, pAnd_ap, pOr_ap, pVal_ap, pAndV_ap, pOrV_ap, pIte_ap, pChain_ap, pNo_ap, poNone_ap, poSome_ap, pSl_ap, pSeq_ap, mSeq_ap, pRng_ap, mRng_ap, pComp_ap, mComp_ap, pYes_ap, pMet_ap, mMet_ap, mMeth_ap, pIsi_ap, pGet2_ap, aNil_ap, aSlot_ap, aVal_ap, mCallIO_ap, mCall_ap, mCallP_ap, mCallPB_ap, oIsN_ap, oNotN_ap, oAdd_int, oSub_int, ipAdd_int, ipSub_int, oLt_int, oLe_int, oGt_int, oGe_int, oLt_str, oLe_str, oGt_str, oGe_str, oEq_int, oNe_int, oEq_bl, oNeg_int, oSubs_lst, oSubs_tup, oIx_lst, oIx_tup, oLen_lst, oLen_tup, oIn_str, oNotIn_str, seqOf_str, seqOf_tup, seqOf_lst, startS, RS.seq_nx, RS.seq_ret, RS.seq_brk, RS.seq_ct, RS.seq_err, RS.seq_bad, L2.DL.R.bind_ok, L2.DL.R.bind_err, L2.DL.R.bind_bad, rS_ok, rS_err, rS_bad, Option.bind_some, Option.bind_none, Option.map_some, Option.map_none, Option.join_some, gN, noOwn, noOwns, noObj, noObjs, noSh, noShs, frz, frzs, List.map_cons, List.map_nil, List.getElem?_cons_zero, List.getElem?_cons_succ, List.set_cons_zero, List.set_cons_succ, List.length_cons, List.length_nil, List.cons_append, List.nil_append, List.replicate, setS_nil, setS_cons, gsNil, gsCons, gTn, Bool.and_true, Bool.true_and, Bool.and_false, Bool.false_and, Bool.or_true, Bool.true_or, Bool.or_false, Bool.false_or, Bool.not_true, Bool.not_false, Bool.and_self, if_true, if_false, Bool.false_eq_true, reduceIte, decide_true, decide_false, callIO, callPB, gatherA, backA, List.take_succ_cons, List.take_zero, atI0, atI1, atI2, atI3, Nat.reduceAdd, Nat.reduceSub, Int.reduceLT, Int.reduceLE, Int.reduceNeg, Int.reduceAdd, Int.reduceSub, Int.reduceMul, Nat.reduceLT, Nat.reduceLeDiff, Int.reduceEq, Int.reduceBEq, oList_T, gLstM_ap, sz2]) rfl) ?_
  rintro _ rfl
  have pc := fun o p => plus_call (o := o) (p := p) T1 r1 ro (by omega)
  have TP := tal_pls one other
  have rp := pls_rows T1 r1 ro
  have lp := pls_len (b := other) T1
  refine To.seq (m := fun ρ => ρ = [some (.scr K ns), b, some (.tpz (encN room)), some (.lst false (encT one)), some (.lst false (encT other)), some (dV true (accD id other one)), x', y', some (.lst true [.lst true (encT one), .lst true (encT other)]), some (.lst true (encT (pls one other))), none, none, none, none]) (To.nxt (by simp only [sSeq_ap, sNil_ap, sIf_ap, sSet_ap, sRet_ap, sRetN_ap, sDrop_ap, sAsg_ap, sFor_ap, sAug_ap, sAugL_ap, sPut_ap, mT_ap, mTest_ap, mF_ap, mP_ap, mMove_ap, mFrz_ap, mFz_ap, sRaiseI_ap, mOp2_ap, mOp1_ap, mOpS_ap, mIx_ap, mIxL_ap, mIte_ap, mNot_ap, mAnd_ap, mOr_ap, mAndV_ap, mOrV_ap, msNil_ap, msCons_ap, psNil_ap, psCons_ap, pVar_ap, pC_ap, pOp1_ap, pOp2_ap, pOpS_ap, pTest_ap, pNot_ap, pAnd_ap, pOr_ap, pVal_ap, pAndV_ap, pOrV_ap, pIte_ap, pChain_ap, pNo_ap, poNone_ap, poSome_ap, pSl_ap, pSeq_ap, mSeq_ap, pRng_ap, mRng_ap, pComp_ap, mComp_ap, pYes_ap, pMet_ap, mMet_ap, mMeth_ap, pIsi_ap, pGet2_ap, aNil_ap, aSlot_ap, aVal_ap, mCallIO_ap, mCall_ap, mCallP_ap, mCallPB_ap, oIsN_ap, oNotN_ap, oAdd_int, oSub_int, ipAdd_int, ipSub_int, oLt_int, oLe_int, oGt_int, oGe_int, oLt_str, oLe_str, oGt_str, oGe_str, oEq_int, oNe_int, oEq_bl, oNeg_int, oSubs_lst, oSubs_tup, oIx_lst, oIx_tup, oLen_lst, oLen_tup, oIn_str, oNotIn_str, seqOf_str, seqOf_tup, seqOf_lst, startS, RS.seq_nx, RS.seq_ret, RS.seq_brk, RS.seq_ct, RS.seq_err, RS.seq_bad, L2.DL.R.bind_ok, L2.DL.R.bind_err, L2.DL.R.bind_bad, rS_ok, rS_err, rS_bad, Option.bind_some, Option.bind_none, Option.map_some, Option.map_none, Option.join_some, gN, noOwn, noOwns, noObj, noObjs, noSh, noShs, frz, frzs, List.map_cons, List.map_nil, List.getElem?_cons_zero, List.getElem?_cons_succ, List.set_cons_zero, List.set_cons_succ, List.length_cons, List.length_nil, List.cons_append, List.nil_append, List.replicate, setS_nil, setS_cons, gsNil, gsCons, gTn, Bool.and_true, Bool.true_and, Bool.and_false, Bool.false_and, Bool.or_true, Bool.true_or, Bool.or_false, Bool.false_or, Bool.not_true, Bool.not_false, Bool.and_self, if_true, if_false, Bool.false_eq_true, reduceIte, decide_true, decide_false, callIO, callPB, gatherA, backA, List.take_succ_cons, List.take_zero, atI0, atI1, atI2, atI3, Nat.reduceAdd, Nat.reduceSub, Int.reduceLT, Int.reduceLE, Int.reduceNeg, Int.reduceAdd, Int.reduceSub, Int.reduceMul, Nat.reduceLT, Nat.reduceLeDiff, Int.reduceEq, Int.reduceBEq, pc]) rfl) ?_
  rintro _ rfl
  have al := accD_len id other one
  have okA : okKeys (accD id other one) := okKeys_of (accD_nodup id other one T1.nd) fun p hp => accD_all (f := id) (P := fun r => r.length = room.length) other one r1 ro p hp
  have sc := settled_call (o := true) okA (by omega)
  have es : settle (accD id other one) = pls one other := by unfold pls; rw [cntd_eq T1.nd]
  rw [es] at sc
  have smp : small (pls one other) := fun p hp => by rw [rp p hp]; omega
  have cs := fun o p => same_call (o := o) (p := p) smp (by omega)
  have g2 : gLstN [.lst false (encT one), .lst false (encT other)] = some (.lst true [.lst false (encT one), .lst false (encT other)]) := by
    rw [gLstN_ap]
    simp only [noOwns, noOwn, noOwns_T, List.length_cons, List.length_nil, Nat.zero_add, Nat.reduceAdd, sz2, Bool.not_false, Bool.and_self, decide_true, if_true]
  have ne2 : oNe (.lst true [.lst true (encT one), .lst true (encT other)]) (.lst true [.lst false (encT one), .lst false (encT other)]) = some (.bl false) := by
    simp only [oNe, eqB_two, Option.map_some, Bool.not_true]
  have eq2 : oEq (.lst true [.lst true (encT one), .lst true (encT other)]) (.lst true [.lst false (encT one), .lst false (encT other)]) = some (.bl true) := by
    simp only [oEq, eqB_two, Option.map_some]
  refine To.seq (m := fun ρ => ρ = [some (.scr K ns), b, some (.tpz (encN room)), some (.lst false (encT one)), some (.lst false (encT other)), some (dV true (accD id other one)), x', y', some (.lst true [.lst true (encT one), .lst true (encT other)]), some (.lst true (encT (pls one other))), none, none, none, none]) (To.nxt (by simp only [sSeq_ap, sNil_ap, sIf_ap, sSet_ap, sRet_ap, sRetN_ap, sDrop_ap, sAsg_ap, sFor_ap, sAug_ap, sAugL_ap, sPut_ap, mT_ap, mTest_ap, mF_ap, mP_ap, mMove_ap, mFrz_ap, mFz_ap, sRaiseI_ap, mOp2_ap, mOp1_ap, mOpS_ap, mIx_ap, mIxL_ap, mIte_ap, mNot_ap, mAnd_ap, mOr_ap, mAndV_ap, mOrV_ap, msNil_ap, msCons_ap, psNil_ap, psCons_ap, pVar_ap, pC_ap, pOp1_ap, pOp2_ap, pOpS_ap, pTest_ap, pNot_ap, pAnd_ap, pOr_ap, pVal_ap, pAndV_ap, pOrV_ap, pIte_ap, pChain_ap, pNo_ap, poNone_ap, poSome_ap, pSl_ap, pSeq_ap, mSeq_ap, pRng_ap, mRng_ap, pComp_ap, mComp_ap, pYes_ap, pMet_ap, mMet_ap, mMeth_ap, pIsi_ap, pGet2_ap, aNil_ap, aSlot_ap, aVal_ap, mCallIO_ap, mCall_ap, mCallP_ap, mCallPB_ap, oIsN_ap, oNotN_ap, oAdd_int, oSub_int, ipAdd_int, ipSub_int, oLt_int, oLe_int, oGt_int, oGe_int, oLt_str, oLe_str, oGt_str, oGe_str, oEq_int, oNe_int, oEq_bl, oNeg_int, oSubs_lst, oSubs_tup, oIx_lst, oIx_tup, oLen_lst, oLen_tup, oIn_str, oNotIn_str, seqOf_str, seqOf_tup, seqOf_lst, startS, RS.seq_nx, RS.seq_ret, RS.seq_brk, RS.seq_ct, RS.seq_err, RS.seq_bad, L2.DL.R.bind_ok, L2.DL.R.bind_err, L2.DL.R.bind_bad, rS_ok, rS_err, rS_bad, Option.bind_some, Option.bind_none, Option.map_some, Option.map_none, Option.join_some, gN, noOwn, noOwns, noObj, noObjs, noSh, noShs, frz, frzs, List.map_cons, List.map_nil, List.getElem?_cons_zero, List.getElem?_cons_succ, List.set_cons_zero, List.set_cons_succ, List.length_cons, List.length_nil, List.cons_append, List.nil_append, List.replicate, setS_nil, setS_cons, gsNil, gsCons, gTn, Bool.and_true, Bool.true_and, Bool.and_false, Bool.false_and, Bool.or_true, Bool.true_or, Bool.or_false, Bool.false_or, Bool.not_true, Bool.not_false, Bool.and_self, if_true, if_false, Bool.false_eq_true, reduceIte, decide_true, decide_false, callIO, callPB, gatherA, backA, List.take_succ_cons, List.take_zero, atI0, atI1, atI2, atI3, Nat.reduceAdd, Nat.reduceSub, Int.reduceLT, Int.reduceLE, Int.reduceNeg, Int.reduceAdd, Int.reduceSub, Int.reduceMul, Nat.reduceLT, Nat.reduceLeDiff, Int.reduceEq, Int.reduceBEq, sc, cs, g2, ne2]) rfl) ?_
  rintro _ rfl
  have ls1 := less_spec TP TO.nd (fun p hp => by have := no p hp; omega) rp ro (by omega)
  rw [few_pls T1 TO n1, lss_pls T1 TO] at ls1
  have ls2 := less_spec TP T1.nd (fun p hp => by have := n1 p hp; omega) rp r1 (by omega)
  rw [pls_comm T1 TO, few_pls TO T1 no, lss_pls TO T1, ← pls_comm T1 TO] at ls2
  dsimp only at ls1 ls2
  have sm1 : small one := fun p hp => by rw [r1 p hp]; omega
  have smo : small other := fun p hp => by rw [ro p hp]; omega
  have st1 := same_true sm1 (by omega)
  have sto := same_true smo (by omega)
  refine To.seq (m := fun ρ => ρ = [some (.scr K ns), b, some (.tpz (encN room)), some (.lst false (encT one)), some (.lst false (encT other)), some (dV true (accD id other one)), x', y', some (.lst true [.lst true (encT one), .lst true (encT other)]), some (.lst true (encT (pls one other))), none, none, none, none]) (To.nxt (by simp only [sSeq_ap, sNil_ap, sIf_ap, sSet_ap, sRet_ap, sRetN_ap, sDrop_ap, sAsg_ap, sFor_ap, sAug_ap, sAugL_ap, sPut_ap, mT_ap, mTest_ap, mF_ap, mP_ap, mMove_ap, mFrz_ap, mFz_ap, sRaiseI_ap, mOp2_ap, mOp1_ap, mOpS_ap, mIx_ap, mIxL_ap, mIte_ap, mNot_ap, mAnd_ap, mOr_ap, mAndV_ap, mOrV_ap, msNil_ap, msCons_ap, psNil_ap, psCons_ap, pVar_ap, pC_ap, pOp1_ap, pOp2_ap, pOpS_ap, pTest_ap, pNot_ap, pAnd_ap, pOr_ap, pVal_ap, pAndV_ap, pOrV_ap, pIte_ap, pChain_ap, pNo_ap, poNone_ap, poSome_ap, pSl_ap, pSeq_ap, mSeq_ap, pRng_ap, mRng_ap, pComp_ap, mComp_ap, pYes_ap, pMet_ap, mMet_ap, mMeth_ap, pIsi_ap, pGet2_ap, aNil_ap, aSlot_ap, aVal_ap, mCallIO_ap, mCall_ap, mCallP_ap, mCallPB_ap, oIsN_ap, oNotN_ap, oAdd_int, oSub_int, ipAdd_int, ipSub_int, oLt_int, oLe_int, oGt_int, oGe_int, oLt_str, oLe_str, oGt_str, oGe_str, oEq_int, oNe_int, oEq_bl, oNeg_int, oSubs_lst, oSubs_tup, oIx_lst, oIx_tup, oLen_lst, oLen_tup, oIn_str, oNotIn_str, seqOf_str, seqOf_tup, seqOf_lst, startS, RS.seq_nx, RS.seq_ret, RS.seq_brk, RS.seq_ct, RS.seq_err, RS.seq_bad, L2.DL.R.bind_ok, L2.DL.R.bind_err, L2.DL.R.bind_bad, rS_ok, rS_err, rS_bad, Option.bind_some, Option.bind_none, Option.map_some, Option.map_none, Option.join_some, gN, noOwn, noOwns, noObj, noObjs, noSh, noShs, frz, frzs, List.map_cons, List.map_nil, List.getElem?_cons_zero, List.getElem?_cons_succ, List.set_cons_zero, List.set_cons_succ, List.length_cons, List.length_nil, List.cons_append, List.nil_append, List.replicate, setS_nil, setS_cons, gsNil, gsCons, gTn, Bool.and_true, Bool.true_and, Bool.and_false, Bool.false_and, Bool.or_true, Bool.true_or, Bool.or_false, Bool.false_or, Bool.not_true, Bool.not_false, Bool.and_self, if_true, if_false, Bool.false_eq_true, reduceIte, decide_true, decide_false, callIO, callPB, gatherA, backA, List.take_succ_cons, List.take_zero, atI0, atI1, atI2, atI3, Nat.reduceAdd, Nat.reduceSub, Int.reduceLT, Int.reduceLE, Int.reduceNeg, Int.reduceAdd, Int.reduceSub, Int.reduceMul, Nat.reduceLT, Nat.reduceLeDiff, Int.reduceEq, Int.reduceBEq, noObjs_T, frzs_T, noOwns_T, noShs_T, ls1, ls2, st1, sto]) rfl) ?_
  rintro _ rfl
  have sc1 : compP [6, 7] (gTn 2 (gsCons gN (gsCons gN gsNil))) pYes (pNo (pVar 7)) [some (.scr K ns), b, some (.tpz (encN room)), some (.lst false (encT one)), some (.lst false (encT other)), some (dV true (accD id other one)), none, none, some (.lst true [.lst true (encT one), .lst true (encT other)]), some (.lst true (encT (pls one other))), none, none, none, none] (encT one) = some ((one.map Prod.snd).map .int) := sum_comp fun p _ => by simp only [sSeq_ap, sNil_ap, sIf_ap, sSet_ap, sRet_ap, sRetN_ap, sDrop_ap, sAsg_ap, sFor_ap, sAug_ap, sAugL_ap, sPut_ap, mT_ap, mTest_ap, mF_ap, mP_ap, mMove_ap, mFrz_ap, mFz_ap, sRaiseI_ap, mOp2_ap, mOp1_ap, mOpS_ap, mIx_ap, mIxL_ap, mIte_ap, mNot_ap, mAnd_ap, mOr_ap, mAndV_ap, mOrV_ap, msNil_ap, msCons_ap, psNil_ap, psCons_ap, pVar_ap, pC_ap, pOp1_ap, pOp2_ap, pOpS_ap, pTest_ap, pNot_ap, pAnd_ap, pOr_ap, pVal_ap, pAndV_ap, pOrV_ap, pIte_ap, pChain_ap, pNo_ap, poNone_ap, poSome_ap, pSl_ap, pSeq_ap, mSeq_ap, pRng_ap, mRng_ap, pComp_ap, mComp_ap, pYes_ap, pMet_ap, mMet_ap, mMeth_ap, pIsi_ap, pGet2_ap, aNil_ap, aSlot_ap, aVal_ap, mCallIO_ap, mCall_ap, mCallP_ap, mCallPB_ap, oIsN_ap, oNotN_ap, oAdd_int, oSub_int, ipAdd_int, ipSub_int, oLt_int, oLe_int, oGt_int, oGe_int, oLt_str, oLe_str, oGt_str, oGe_str, oEq_int, oNe_int, oEq_bl, oNeg_int, oSubs_lst, oSubs_tup, oIx_lst, oIx_tup, oLen_lst, oLen_tup, oIn_str, oNotIn_str, seqOf_str, seqOf_tup, seqOf_lst, startS, RS.seq_nx, RS.seq_ret, RS.seq_brk, RS.seq_ct, RS.seq_err, RS.seq_bad, L2.DL.R.bind_ok, L2.DL.R.bind_err, L2.DL.R.bind_bad, rS_ok, rS_err, rS_bad, Option.bind_some, Option.bind_none, Option.map_some, Option.map_none, Option.join_some, gN, noOwn, noOwns, noObj, noObjs, noSh, noShs, frz, frzs, List.map_cons, List.map_nil, List.getElem?_cons_zero, List.getElem?_cons_succ, List.set_cons_zero, List.set_cons_succ, List.length_cons, List.length_nil, List.cons_append, List.nil_append, List.replicate, setS_nil, setS_cons, gsNil, gsCons, gTn, Bool.and_true, Bool.true_and, Bool.and_false, Bool.false_and, Bool.or_true, Bool.true_or, Bool.or_false, Bool.false_or, Bool.not_true, Bool.not_false, Bool.and_self, if_true, if_false, Bool.false_eq_true, reduceIte, decide_true, decide_false, callIO, callPB, gatherA, backA, List.take_succ_cons, List.take_zero, atI0, atI1, atI2, atI3, Nat.reduceAdd, Nat.reduceSub, Int.reduceLT, Int.reduceLE, Int.reduceNeg, Int.reduceAdd, Int.reduceSub, Int.reduceMul, Nat.reduceLT, Nat.reduceLeDiff, Int.reduceEq, Int.reduceBEq]
  have sc2 : compP [6, 7] (gTn 2 (gsCons gN (gsCons gN gsNil))) pYes (pNo (pVar 7)) [some (.scr K ns), b, some (.tpz (encN room)), some (.lst false (encT one)), some (.lst false (encT other)), some (dV true (accD id other one)), none, none, some (.lst true [.lst true (encT one), .lst true (encT other)]), some (.lst true (encT (pls one other))), none, none, none, none] (encT other) = some ((other.map Prod.snd).map .int) := sum_comp fun p _ => by simp only [sSeq_ap, sNil_ap, sIf_ap, sSet_ap, sRet_ap, sRetN_ap, sDrop_ap, sAsg_ap, sFor_ap, sAug_ap, sAugL_ap, sPut_ap, mT_ap, mTest_ap, mF_ap, mP_ap, mMove_ap, mFrz_ap, mFz_ap, sRaiseI_ap, mOp2_ap, mOp1_ap, mOpS_ap, mIx_ap, mIxL_ap, mIte_ap, mNot_ap, mAnd_ap, mOr_ap, mAndV_ap, mOrV_ap, msNil_ap, msCons_ap, psNil_ap, psCons_ap, pVar_ap, pC_ap, pOp1_ap, pOp2_ap, pOpS_ap, pTest_ap, pNot_ap, pAnd_ap, pOr_ap, pVal_ap, pAndV_ap, pOrV_ap, pIte_ap, pChain_ap, pNo_ap, poNone_ap, poSome_ap, pSl_ap, pSeq_ap, mSeq_ap, pRng_ap, mRng_ap, pComp_ap, mComp_ap, pYes_ap, pMet_ap, mMet_ap, mMeth_ap, pIsi_ap, pGet2_ap, aNil_ap, aSlot_ap, aVal_ap, mCallIO_ap, mCall_ap, mCallP_ap, mCallPB_ap, oIsN_ap, oNotN_ap, oAdd_int, oSub_int, ipAdd_int, ipSub_int, oLt_int, oLe_int, oGt_int, oGe_int, oLt_str, oLe_str, oGt_str, oGe_str, oEq_int, oNe_int, oEq_bl, oNeg_int, oSubs_lst, oSubs_tup, oIx_lst, oIx_tup, oLen_lst, oLen_tup, oIn_str, oNotIn_str, seqOf_str, seqOf_tup, seqOf_lst, startS, RS.seq_nx, RS.seq_ret, RS.seq_brk, RS.seq_ct, RS.seq_err, RS.seq_bad, L2.DL.R.bind_ok, L2.DL.R.bind_err, L2.DL.R.bind_bad, rS_ok, rS_err, rS_bad, Option.bind_some, Option.bind_none, Option.map_some, Option.map_none, Option.join_some, gN, noOwn, noOwns, noObj, noObjs, noSh, noShs, frz, frzs, List.map_cons, List.map_nil, List.getElem?_cons_zero, List.getElem?_cons_succ, List.set_cons_zero, List.set_cons_succ, List.length_cons, List.length_nil, List.cons_append, List.nil_append, List.replicate, setS_nil, setS_cons, gsNil, gsCons, gTn, Bool.and_true, Bool.true_and, Bool.and_false, Bool.false_and, Bool.or_true, Bool.true_or, Bool.or_false, Bool.false_or, Bool.not_true, Bool.not_false, Bool.and_self, if_true, if_false, Bool.false_eq_true, reduceIte, decide_true, decide_false, callIO, callPB, gatherA, backA, List.take_succ_cons, List.take_zero, atI0, atI1, atI2, atI3, Nat.reduceAdd, Nat.reduceSub, Int.reduceLT, Int.reduceLE, Int.reduceNeg, Int.reduceAdd, Int.reduceSub, Int.reduceMul, Nat.reduceLT, Nat.reduceLeDiff, Int.reduceEq, Int.reduceBEq]
  have lz1 : ((one.map Prod.snd).map Val.int).length ≤ sizeLine := by rw [List.length_map, List.length_map, sizeLine_eq]; omega
  have lz2 : ((other.map Prod.snd).map Val.int).length ≤ sizeLine := by rw [List.length_map, List.length_map, sizeLine_eq]; omega
  refine To.seq (m := fun ρ => ρ = [some (.scr K ns), b, some (.tpz (encN room)), some (.lst false (encT one)), some (.lst false (encT other)), some (dV true (accD id other one)), x', y', some (.lst true [.lst true (encT one), .lst true (encT other)]), some (.lst true (encT (pls one other))), some (.lst true [.int (tot one), .int (tot other)]), none, none, none]) (To.nxt (by simp only [sSeq_ap, sNil_ap, sIf_ap, sSet_ap, sRet_ap, sRetN_ap, sDrop_ap, sAsg_ap, sFor_ap, sAug_ap, sAugL_ap, sPut_ap, mT_ap, mTest_ap, mF_ap, mP_ap, mMove_ap, mFrz_ap, mFz_ap, sRaiseI_ap, mOp2_ap, mOp1_ap, mOpS_ap, mIx_ap, mIxL_ap, mIte_ap, mNot_ap, mAnd_ap, mOr_ap, mAndV_ap, mOrV_ap, msNil_ap, msCons_ap, psNil_ap, psCons_ap, pVar_ap, pC_ap, pOp1_ap, pOp2_ap, pOpS_ap, pTest_ap, pNot_ap, pAnd_ap, pOr_ap, pVal_ap, pAndV_ap, pOrV_ap, pIte_ap, pChain_ap, pNo_ap, poNone_ap, poSome_ap, pSl_ap, pSeq_ap, mSeq_ap, pRng_ap, mRng_ap, pComp_ap, mComp_ap, pYes_ap, pMet_ap, mMet_ap, mMeth_ap, pIsi_ap, pGet2_ap, aNil_ap, aSlot_ap, aVal_ap, mCallIO_ap, mCall_ap, mCallP_ap, mCallPB_ap, oIsN_ap, oNotN_ap, oAdd_int, oSub_int, ipAdd_int, ipSub_int, oLt_int, oLe_int, oGt_int, oGe_int, oLt_str, oLe_str, oGt_str, oGe_str, oEq_int, oNe_int, oEq_bl, oNeg_int, oSubs_lst, oSubs_tup, oIx_lst, oIx_tup, oLen_lst, oLen_tup, oIn_str, oNotIn_str, seqOf_str, seqOf_tup, seqOf_lst, startS, RS.seq_nx, RS.seq_ret, RS.seq_brk, RS.seq_ct, RS.seq_err, RS.seq_bad, L2.DL.R.bind_ok, L2.DL.R.bind_err, L2.DL.R.bind_bad, rS_ok, rS_err, rS_bad, Option.bind_some, Option.bind_none, Option.map_some, Option.map_none, Option.join_some, gN, noOwn, noOwns, noObj, noObjs, noSh, noShs, frz, frzs, List.map_cons, List.map_nil, List.getElem?_cons_zero, List.getElem?_cons_succ, List.set_cons_zero, List.set_cons_succ, List.length_cons, List.length_nil, List.cons_append, List.nil_append, List.replicate, setS_nil, setS_cons, gsNil, gsCons, gTn, Bool.and_true, Bool.true_and, Bool.and_false, Bool.false_and, Bool.or_true, Bool.true_or, Bool.or_false, Bool.false_or, Bool.not_true, Bool.not_false, Bool.and_self, if_true, if_false, Bool.false_eq_true, reduceIte, decide_true, decide_false, callIO, callPB, gatherA, backA, List.take_succ_cons, List.take_zero, atI0, atI1, atI2, atI3, Nat.reduceAdd, Nat.reduceSub, Int.reduceLT, Int.reduceLE, Int.reduceNeg, Int.reduceAdd, Int.reduceSub, Int.reduceMul, Nat.reduceLT, Nat.reduceLeDiff, Int.reduceEq, Int.reduceBEq, w67, sc1, sc2, lz1, lz2, oSum_ints, gLstN_ap, sz2]) rfl) ?_
  rintro _ rfl
  have tc1 := fun o => total_call (o := o) (l := one) (by omega)
  have tc2 := fun o => total_call (o := o) (l := pls one other) (by omega)
  rw [tot_pls T1] at tc2
  have wc := whole_call (tot one + tot other)
  have ni : ∀ i : Int, oNe (.int i) (.int i) = some (.bl false) := fun i => by rw [oNe_int, beq_self_eq_true]; rfl
  refine To.seq (m := fun ρ => ρ = [some (.scr K ns), b, some (.tpz (encN room)), some (.lst false (encT one)), some (.lst false (encT other)), some (dV true (accD id other one)), x', y', some (.lst true [.lst true (encT one), .lst true (encT other)]), some (.lst true (encT (pls one other))), some (.lst true [.int (tot one), .int (tot other)]), none, none, none]) (To.nxt (by simp only [sSeq_ap, sNil_ap, sIf_ap, sSet_ap, sRet_ap, sRetN_ap, sDrop_ap, sAsg_ap, sFor_ap, sAug_ap, sAugL_ap, sPut_ap, mT_ap, mTest_ap, mF_ap, mP_ap, mMove_ap, mFrz_ap, mFz_ap, sRaiseI_ap, mOp2_ap, mOp1_ap, mOpS_ap, mIx_ap, mIxL_ap, mIte_ap, mNot_ap, mAnd_ap, mOr_ap, mAndV_ap, mOrV_ap, msNil_ap, msCons_ap, psNil_ap, psCons_ap, pVar_ap, pC_ap, pOp1_ap, pOp2_ap, pOpS_ap, pTest_ap, pNot_ap, pAnd_ap, pOr_ap, pVal_ap, pAndV_ap, pOrV_ap, pIte_ap, pChain_ap, pNo_ap, poNone_ap, poSome_ap, pSl_ap, pSeq_ap, mSeq_ap, pRng_ap, mRng_ap, pComp_ap, mComp_ap, pYes_ap, pMet_ap, mMet_ap, mMeth_ap, pIsi_ap, pGet2_ap, aNil_ap, aSlot_ap, aVal_ap, mCallIO_ap, mCall_ap, mCallP_ap, mCallPB_ap, oIsN_ap, oNotN_ap, oAdd_int, oSub_int, ipAdd_int, ipSub_int, oLt_int, oLe_int, oGt_int, oGe_int, oLt_str, oLe_str, oGt_str, oGe_str, oEq_int, oNe_int, oEq_bl, oNeg_int, oSubs_lst, oSubs_tup, oIx_lst, oIx_tup, oLen_lst, oLen_tup, oIn_str, oNotIn_str, seqOf_str, seqOf_tup, seqOf_lst, startS, RS.seq_nx, RS.seq_ret, RS.seq_brk, RS.seq_ct, RS.seq_err, RS.seq_bad, L2.DL.R.bind_ok, L2.DL.R.bind_err, L2.DL.R.bind_bad, rS_ok, rS_err, rS_bad, Option.bind_some, Option.bind_none, Option.map_some, Option.map_none, Option.join_some, gN, noOwn, noOwns, noObj, noObjs, noSh, noShs, frz, frzs, List.map_cons, List.map_nil, List.getElem?_cons_zero, List.getElem?_cons_succ, List.set_cons_zero, List.set_cons_succ, List.length_cons, List.length_nil, List.cons_append, List.nil_append, List.replicate, setS_nil, setS_cons, gsNil, gsCons, gTn, Bool.and_true, Bool.true_and, Bool.and_false, Bool.false_and, Bool.or_true, Bool.true_or, Bool.or_false, Bool.false_or, Bool.not_true, Bool.not_false, Bool.and_self, if_true, if_false, Bool.false_eq_true, reduceIte, decide_true, decide_false, callIO, callPB, gatherA, backA, List.take_succ_cons, List.take_zero, atI0, atI1, atI2, atI3, Nat.reduceAdd, Nat.reduceSub, Int.reduceLT, Int.reduceLE, Int.reduceNeg, Int.reduceAdd, Int.reduceSub, Int.reduceMul, Nat.reduceLT, Nat.reduceLeDiff, Int.reduceEq, Int.reduceBEq, tc1, tc2, wc, ni]) rfl) ?_
  rintro _ rfl
  have ga : ∀ t : Dic, t.length < 16777216 → gAppend (encT t) [.int 0] = some (.non, encT t ++ [.int 0]) := fun t ht => by
    simp only [gAppend, encT_len, sizeLine_eq]
    rw [if_pos ht]
  have ga1 := ga (pls one other) (by omega)
  refine To.seq (m := fun ρ => ∃ x9, ρ = [some (.scr K ns), b, some (.tpz (encN room)), some (.lst false (encT one)), some (.lst false (encT other)), some (dV true (accD id other one)), x', y', some (.lst true [.lst true (encT one), .lst true (encT other)]), x9, some (.lst true [.int (tot one), .int (tot other)]), none, none, none]) (To.nxt (by simp only [sSeq_ap, sNil_ap, sIf_ap, sSet_ap, sRet_ap, sRetN_ap, sDrop_ap, sAsg_ap, sFor_ap, sAug_ap, sAugL_ap, sPut_ap, mT_ap, mTest_ap, mF_ap, mP_ap, mMove_ap, mFrz_ap, mFz_ap, sRaiseI_ap, mOp2_ap, mOp1_ap, mOpS_ap, mIx_ap, mIxL_ap, mIte_ap, mNot_ap, mAnd_ap, mOr_ap, mAndV_ap, mOrV_ap, msNil_ap, msCons_ap, psNil_ap, psCons_ap, pVar_ap, pC_ap, pOp1_ap, pOp2_ap, pOpS_ap, pTest_ap, pNot_ap, pAnd_ap, pOr_ap, pVal_ap, pAndV_ap, pOrV_ap, pIte_ap, pChain_ap, pNo_ap, poNone_ap, poSome_ap, pSl_ap, pSeq_ap, mSeq_ap, pRng_ap, mRng_ap, pComp_ap, mComp_ap, pYes_ap, pMet_ap, mMet_ap, mMeth_ap, pIsi_ap, pGet2_ap, aNil_ap, aSlot_ap, aVal_ap, mCallIO_ap, mCall_ap, mCallP_ap, mCallPB_ap, oIsN_ap, oNotN_ap, oAdd_int, oSub_int, ipAdd_int, ipSub_int, oLt_int, oLe_int, oGt_int, oGe_int, oLt_str, oLe_str, oGt_str, oGe_str, oEq_int, oNe_int, oEq_bl, oNeg_int, oSubs_lst, oSubs_tup, oIx_lst, oIx_tup, oLen_lst, oLen_tup, oIn_str, oNotIn_str, seqOf_str, seqOf_tup, seqOf_lst, startS, RS.seq_nx, RS.seq_ret, RS.seq_brk, RS.seq_ct, RS.seq_err, RS.seq_bad, L2.DL.R.bind_ok, L2.DL.R.bind_err, L2.DL.R.bind_bad, rS_ok, rS_err, rS_bad, Option.bind_some, Option.bind_none, Option.map_some, Option.map_none, Option.join_some, gN, noOwn, noOwns, noObj, noObjs, noSh, noShs, frz, frzs, List.map_cons, List.map_nil, List.getElem?_cons_zero, List.getElem?_cons_succ, List.set_cons_zero, List.set_cons_succ, List.length_cons, List.length_nil, List.cons_append, List.nil_append, List.replicate, setS_nil, setS_cons, gsNil, gsCons, gTn, Bool.and_true, Bool.true_and, Bool.and_false, Bool.false_and, Bool.or_true, Bool.true_or, Bool.or_false, Bool.false_or, Bool.not_true, Bool.not_false, Bool.and_self, if_true, if_false, Bool.false_eq_true, reduceIte, decide_true, decide_false, callIO, callPB, gatherA, backA, List.take_succ_cons, List.take_zero, atI0, atI1, atI2, atI3, Nat.reduceAdd, Nat.reduceSub, Int.reduceLT, Int.reduceLE, Int.reduceNeg, Int.reduceAdd, Int.reduceSub, Int.reduceMul, Nat.reduceLT, Nat.reduceLeDiff, Int.reduceEq, Int.reduceBEq, ga1] <;> rfl) ⟨_, rfl⟩) ?_
  rintro _ ⟨x9, rfl⟩
  refine To.seq (m := fun ρ => ρ = [some (.scr K ns), b, some (.tpz (encN room)), some (.lst false (encT one)), some (.lst false (encT other)), some (dV true (accD id other one)), x', y', some (.lst true [.lst true (encT one), .lst true (encT other)]), x9, some (.lst true [.int (tot one), .int (tot other)]), some (dV true one), none, none]) (To.nxt (by simp only [sSeq_ap, sNil_ap, sIf_ap, sSet_ap, sRet_ap, sRetN_ap, sDrop_ap, sAsg_ap, sFor_ap, sAug_ap, sAugL_ap, sPut_ap, mT_ap, mTest_ap, mF_ap, mP_ap, mMove_ap, mFrz_ap, mFz_ap, sRaiseI_ap, mOp2_ap, mOp1_ap, mOpS_ap, mIx_ap, mIxL_ap, mIte_ap, mNot_ap, mAnd_ap, mOr_ap, mAndV_ap, mOrV_ap, msNil_ap, msCons_ap, psNil_ap, psCons_ap, pVar_ap, pC_ap, pOp1_ap, pOp2_ap, pOpS_ap, pTest_ap, pNot_ap, pAnd_ap, pOr_ap, pVal_ap, pAndV_ap, pOrV_ap, pIte_ap, pChain_ap, pNo_ap, poNone_ap, poSome_ap, pSl_ap, pSeq_ap, mSeq_ap, pRng_ap, mRng_ap, pComp_ap, mComp_ap, pYes_ap, pMet_ap, mMet_ap, mMeth_ap, pIsi_ap, pGet2_ap, aNil_ap, aSlot_ap, aVal_ap, mCallIO_ap, mCall_ap, mCallP_ap, mCallPB_ap, oIsN_ap, oNotN_ap, oAdd_int, oSub_int, ipAdd_int, ipSub_int, oLt_int, oLe_int, oGt_int, oGe_int, oLt_str, oLe_str, oGt_str, oGe_str, oEq_int, oNe_int, oEq_bl, oNeg_int, oSubs_lst, oSubs_tup, oIx_lst, oIx_tup, oLen_lst, oLen_tup, oIn_str, oNotIn_str, seqOf_str, seqOf_tup, seqOf_lst, startS, RS.seq_nx, RS.seq_ret, RS.seq_brk, RS.seq_ct, RS.seq_err, RS.seq_bad, L2.DL.R.bind_ok, L2.DL.R.bind_err, L2.DL.R.bind_bad, rS_ok, rS_err, rS_bad, Option.bind_some, Option.bind_none, Option.map_some, Option.map_none, Option.join_some, gN, noOwn, noOwns, noObj, noObjs, noSh, noShs, frz, frzs, List.map_cons, List.map_nil, List.getElem?_cons_zero, List.getElem?_cons_succ, List.set_cons_zero, List.set_cons_succ, List.length_cons, List.length_nil, List.cons_append, List.nil_append, List.replicate, setS_nil, setS_cons, gsNil, gsCons, gTn, Bool.and_true, Bool.true_and, Bool.and_false, Bool.false_and, Bool.or_true, Bool.true_or, Bool.or_false, Bool.false_or, Bool.not_true, Bool.not_false, Bool.and_self, if_true, if_false, Bool.false_eq_true, reduceIte, decide_true, decide_false, callIO, callPB, gatherA, backA, List.take_succ_cons, List.take_zero, atI0, atI1, atI2, atI3, Nat.reduceAdd, Nat.reduceSub, Int.reduceLT, Int.reduceLE, Int.reduceNeg, Int.reduceAdd, Int.reduceSub, Int.reduceMul, Nat.reduceLT, Nat.reduceLeDiff, Int.reduceEq, Int.reduceBEq, od]) rfl) ?_
  rintro _ rfl
  have cf : compP [6, 7] (gTn 2 (gsCons gN (gsCons gN gsNil))) (pTest (pOp2 oLt (pGet2 (pVar 11) (pVar 6) (pC (.int 0))) (pVar 7))) (pNo (pVar 6)) [some (.scr K ns), b, some (.tpz (encN room)), some (.lst false (encT one)), some (.lst false (encT other)), some (dV true (accD id other one)), none, none, some (.lst true [.lst true (encT one), .lst true (encT other)]), x9, some (.lst true [.int (tot one), .int (tot other)]), some (dV true one), none, none] (encT other) = some (encR ((few one other).map Prod.fst)) := by
    have := compP_filter (is := [6, 7]) (t := gTn 2 (gsCons gN (gsCons gN gsNil))) (c := pTest (pOp2 oLt (pGet2 (pVar 11) (pVar 6) (pC (.int 0))) (pVar 7))) (f := pNo (pVar 6)) (ρ := [some (.scr K ns), b, some (.tpz (encN room)), some (.lst false (encT one)), some (.lst false (encT other)), some (dV true (accD id other one)), none, none, some (.lst true [.lst true (encT one), .lst true (encT other)]), x9, some (.lst true [.int (tot one), .int (tot other)]), some (dV true one), none, none]) pairV (fun p => .tup (encI p.1)) (fun p => decide (get0 one p.1 < p.2)) other fun p _ => ⟨[.tup (encI p.1), .int p.2], rfl, by simp only [sSeq_ap, sNil_ap, sIf_ap, sSet_ap, sRet_ap, sRetN_ap, sDrop_ap, sAsg_ap, sFor_ap, sAug_ap, sAugL_ap, sPut_ap, mT_ap, mTest_ap, mF_ap, mP_ap, mMove_ap, mFrz_ap, mFz_ap, sRaiseI_ap, mOp2_ap, mOp1_ap, mOpS_ap, mIx_ap, mIxL_ap, mIte_ap, mNot_ap, mAnd_ap, mOr_ap, mAndV_ap, mOrV_ap, msNil_ap, msCons_ap, psNil_ap, psCons_ap, pVar_ap, pC_ap, pOp1_ap, pOp2_ap, pOpS_ap, pTest_ap, pNot_ap, pAnd_ap, pOr_ap, pVal_ap, pAndV_ap, pOrV_ap, pIte_ap, pChain_ap, pNo_ap, poNone_ap, poSome_ap, pSl_ap, pSeq_ap, mSeq_ap, pRng_ap, mRng_ap, pComp_ap, mComp_ap, pYes_ap, pMet_ap, mMet_ap, mMeth_ap, pIsi_ap, pGet2_ap, aNil_ap, aSlot_ap, aVal_ap, mCallIO_ap, mCall_ap, mCallP_ap, mCallPB_ap, oIsN_ap, oNotN_ap, oAdd_int, oSub_int, ipAdd_int, ipSub_int, oLt_int, oLe_int, oGt_int, oGe_int, oLt_str, oLe_str, oGt_str, oGe_str, oEq_int, oNe_int, oEq_bl, oNeg_int, oSubs_lst, oSubs_tup, oIx_lst, oIx_tup, oLen_lst, oLen_tup, oIn_str, oNotIn_str, seqOf_str, seqOf_tup, seqOf_lst, startS, RS.seq_nx, RS.seq_ret, RS.seq_brk, RS.seq_ct, RS.seq_err, RS.seq_bad, L2.DL.R.bind_ok, L2.DL.R.bind_err, L2.DL.R.bind_bad, rS_ok, rS_err, rS_bad, Option.bind_some, Option.bind_none, Option.map_some, Option.map_none, Option.join_some, gN, noOwn, noOwns, noObj, noObjs, noSh, noShs, frz, frzs, List.map_cons, List.map_nil, List.getElem?_cons_zero, List.getElem?_cons_succ, List.set_cons_zero, List.set_cons_succ, List.length_cons, List.length_nil, List.cons_append, List.nil_append, List.replicate, setS_nil, setS_cons, gsNil, gsCons, gTn, Bool.and_true, Bool.true_and, Bool.and_false, Bool.false_and, Bool.or_true, Bool.true_or, Bool.or_false, Bool.false_or, Bool.not_true, Bool.not_false, Bool.and_self, if_true, if_false, Bool.false_eq_true, reduceIte, decide_true, decide_false, callIO, callPB, gatherA, backA, List.take_succ_cons, List.take_zero, atI0, atI1, atI2, atI3, Nat.reduceAdd, Nat.reduceSub, Int.reduceLT, Int.reduceLE, Int.reduceNeg, Int.reduceAdd, Int.reduceSub, Int.reduceMul, Nat.reduceLT, Nat.reduceLeDiff, Int.reduceEq, Int.reduceBEq, gGet_D], fun _ => by simp only [sSeq_ap, sNil_ap, sIf_ap, sSet_ap, sRet_ap, sRetN_ap, sDrop_ap, sAsg_ap, sFor_ap, sAug_ap, sAugL_ap, sPut_ap, mT_ap, mTest_ap, mF_ap, mP_ap, mMove_ap, mFrz_ap, mFz_ap, sRaiseI_ap, mOp2_ap, mOp1_ap, mOpS_ap, mIx_ap, mIxL_ap, mIte_ap, mNot_ap, mAnd_ap, mOr_ap, mAndV_ap, mOrV_ap, msNil_ap, msCons_ap, psNil_ap, psCons_ap, pVar_ap, pC_ap, pOp1_ap, pOp2_ap, pOpS_ap, pTest_ap, pNot_ap, pAnd_ap, pOr_ap, pVal_ap, pAndV_ap, pOrV_ap, pIte_ap, pChain_ap, pNo_ap, poNone_ap, poSome_ap, pSl_ap, pSeq_ap, mSeq_ap, pRng_ap, mRng_ap, pComp_ap, mComp_ap, pYes_ap, pMet_ap, mMet_ap, mMeth_ap, pIsi_ap, pGet2_ap, aNil_ap, aSlot_ap, aVal_ap, mCallIO_ap, mCall_ap, mCallP_ap, mCallPB_ap, oIsN_ap, oNotN_ap, oAdd_int, oSub_int, ipAdd_int, ipSub_int, oLt_int, oLe_int, oGt_int, oGe_int, oLt_str, oLe_str, oGt_str, oGe_str, oEq_int, oNe_int, oEq_bl, oNeg_int, oSubs_lst, oSubs_tup, oIx_lst, oIx_tup, oLen_lst, oLen_tup, oIn_str, oNotIn_str, seqOf_str, seqOf_tup, seqOf_lst, startS, RS.seq_nx, RS.seq_ret, RS.seq_brk, RS.seq_ct, RS.seq_err, RS.seq_bad, L2.DL.R.bind_ok, L2.DL.R.bind_err, L2.DL.R.bind_bad, rS_ok, rS_err, rS_bad, Option.bind_some, Option.bind_none, Option.map_some, Option.map_none, Option.join_some, gN, noOwn, noOwns, noObj, noObjs, noSh, noShs, frz, frzs, List.map_cons, List.map_nil, List.getElem?_cons_zero, List.getElem?_cons_succ, List.set_cons_zero, List.set_cons_succ, List.length_cons, List.length_nil, List.cons_append, List.nil_append, List.replicate, setS_nil, setS_cons, gsNil, gsCons, gTn, Bool.and_true, Bool.true_and, Bool.and_false, Bool.false_and, Bool.or_true, Bool.true_or, Bool.or_false, Bool.false_or, Bool.not_true, Bool.not_false, Bool.and_self, if_true, if_false, Bool.false_eq_true, reduceIte, decide_true, decide_false, callIO, callPB, gatherA, backA, List.take_succ_cons, List.take_zero, atI0, atI1, atI2, atI3, Nat.reduceAdd, Nat.reduceSub, Int.reduceLT, Int.reduceLE, Int.reduceNeg, Int.reduceAdd, Int.reduceSub, Int.reduceMul, Nat.reduceLT, Nat.reduceLeDiff, Int.reduceEq, Int.reduceBEq, noOwns_I]⟩
    refine Eq.trans this ?_
    rw [encR, List.map_map]; rfl
  have lzf : (encR ((few one other).map Prod.fst)).length ≤ sizeLine := by
    rw [encR_len, List.length_map, sizeLine_eq]
    exact Nat.le_trans (List.length_filter_le _ _) (by omega)
  refine To.seq (m := fun ρ => ρ = [some (.scr K ns), b, some (.tpz (encN room)), some (.lst false (encT one)), some (.lst false (encT other)), some (dV true (accD id other one)), x', y', some (.lst true [.lst true (encT one), .lst true (encT other)]), x9, some (.lst true [.int (tot one), .int (tot other)]), some (dV true one), some (.lst true (encR ((few one other).map Prod.fst))), none]) (To.nxt (by simp only [sSeq_ap, sNil_ap, sIf_ap, sSet_ap, sRet_ap, sRetN_ap, sDrop_ap, sAsg_ap, sFor_ap, sAug_ap, sAugL_ap, sPut_ap, mT_ap, mTest_ap, mF_ap, mP_ap, mMove_ap, mFrz_ap, mFz_ap, sRaiseI_ap, mOp2_ap, mOp1_ap, mOpS_ap, mIx_ap, mIxL_ap, mIte_ap, mNot_ap, mAnd_ap, mOr_ap, mAndV_ap, mOrV_ap, msNil_ap, msCons_ap, psNil_ap, psCons_ap, pVar_ap, pC_ap, pOp1_ap, pOp2_ap, pOpS_ap, pTest_ap, pNot_ap, pAnd_ap, pOr_ap, pVal_ap, pAndV_ap, pOrV_ap, pIte_ap, pChain_ap, pNo_ap, poNone_ap, poSome_ap, pSl_ap, pSeq_ap, mSeq_ap, pRng_ap, mRng_ap, pComp_ap, mComp_ap, pYes_ap, pMet_ap, mMet_ap, mMeth_ap, pIsi_ap, pGet2_ap, aNil_ap, aSlot_ap, aVal_ap, mCallIO_ap, mCall_ap, mCallP_ap, mCallPB_ap, oIsN_ap, oNotN_ap, oAdd_int, oSub_int, ipAdd_int, ipSub_int, oLt_int, oLe_int, oGt_int, oGe_int, oLt_str, oLe_str, oGt_str, oGe_str, oEq_int, oNe_int, oEq_bl, oNeg_int, oSubs_lst, oSubs_tup, oIx_lst, oIx_tup, oLen_lst, oLen_tup, oIn_str, oNotIn_str, seqOf_str, seqOf_tup, seqOf_lst, startS, RS.seq_nx, RS.seq_ret, RS.seq_brk, RS.seq_ct, RS.seq_err, RS.seq_bad, L2.DL.R.bind_ok, L2.DL.R.bind_err, L2.DL.R.bind_bad, rS_ok, rS_err, rS_bad, Option.bind_some, Option.bind_none, Option.map_some, Option.map_none, Option.join_some, gN, noOwn, noOwns, noObj, noObjs, noSh, noShs, frz, frzs, List.map_cons, List.map_nil, List.getElem?_cons_zero, List.getElem?_cons_succ, List.set_cons_zero, List.set_cons_succ, List.length_cons, List.length_nil, List.cons_append, List.nil_append, List.replicate, setS_nil, setS_cons, gsNil, gsCons, gTn, Bool.and_true, Bool.true_and, Bool.and_false, Bool.false_and, Bool.or_true, Bool.true_or, Bool.or_false, Bool.false_or, Bool.not_true, Bool.not_false, Bool.and_self, if_true, if_false, Bool.false_eq_true, reduceIte, decide_true, decide_false, callIO, callPB, gatherA, backA, List.take_succ_cons, List.take_zero, atI0, atI1, atI2, atI3, Nat.reduceAdd, Nat.reduceSub, Int.reduceLT, Int.reduceLE, Int.reduceNeg, Int.reduceAdd, Int.reduceSub, Int.reduceMul, Nat.reduceLT, Nat.reduceLeDiff, Int.reduceEq, Int.reduceBEq, noOwns_T, w67, cf, lzf]) rfl) ?_
  rintro _ rfl
  have mn := minus_spec T1 TO.nd (fun p hp => by have := no p hp; omega) r1 ro (by omega)
  cases q : few one other with
  | cons p qs =>
    rw [q] at mn
    dsimp only at mn
    refine To.seq (m := fun ρ => ρ = [some (.scr K ns), b, some (.tpz (encN room)), some (.lst false (encT one)), some (.lst false (encT other)), some (dV true (accD id other one)), x', y', some (.lst true [.lst true (encT one), .lst true (encT other)]), x9, some (.lst true [.int (tot one), .int (tot other)]), some (dV true one), some (.lst true (.tup (encI p.1) :: encR (qs.map Prod.fst))), some (.tup [.str "few", .tup (encI p.1)])]) (To.nxt (by simp only [sSeq_ap, sNil_ap, sIf_ap, sSet_ap, sRet_ap, sRetN_ap, sDrop_ap, sAsg_ap, sFor_ap, sAug_ap, sAugL_ap, sPut_ap, mT_ap, mTest_ap, mF_ap, mP_ap, mMove_ap, mFrz_ap, mFz_ap, sRaiseI_ap, mOp2_ap, mOp1_ap, mOpS_ap, mIx_ap, mIxL_ap, mIte_ap, mNot_ap, mAnd_ap, mOr_ap, mAndV_ap, mOrV_ap, msNil_ap, msCons_ap, psNil_ap, psCons_ap, pVar_ap, pC_ap, pOp1_ap, pOp2_ap, pOpS_ap, pTest_ap, pNot_ap, pAnd_ap, pOr_ap, pVal_ap, pAndV_ap, pOrV_ap, pIte_ap, pChain_ap, pNo_ap, poNone_ap, poSome_ap, pSl_ap, pSeq_ap, mSeq_ap, pRng_ap, mRng_ap, pComp_ap, mComp_ap, pYes_ap, pMet_ap, mMet_ap, mMeth_ap, pIsi_ap, pGet2_ap, aNil_ap, aSlot_ap, aVal_ap, mCallIO_ap, mCall_ap, mCallP_ap, mCallPB_ap, oIsN_ap, oNotN_ap, oAdd_int, oSub_int, ipAdd_int, ipSub_int, oLt_int, oLe_int, oGt_int, oGe_int, oLt_str, oLe_str, oGt_str, oGe_str, oEq_int, oNe_int, oEq_bl, oNeg_int, oSubs_lst, oSubs_tup, oIx_lst, oIx_tup, oLen_lst, oLen_tup, oIn_str, oNotIn_str, seqOf_str, seqOf_tup, seqOf_lst, startS, RS.seq_nx, RS.seq_ret, RS.seq_brk, RS.seq_ct, RS.seq_err, RS.seq_bad, L2.DL.R.bind_ok, L2.DL.R.bind_err, L2.DL.R.bind_bad, rS_ok, rS_err, rS_bad, Option.bind_some, Option.bind_none, Option.map_some, Option.map_none, Option.join_some, gN, noOwn, noOwns, noObj, noObjs, noSh, noShs, frz, frzs, List.map_cons, List.map_nil, List.getElem?_cons_zero, List.getElem?_cons_succ, List.set_cons_zero, List.set_cons_succ, List.length_cons, List.length_nil, List.cons_append, List.nil_append, List.replicate, setS_nil, setS_cons, gsNil, gsCons, gTn, Bool.and_true, Bool.true_and, Bool.and_false, Bool.false_and, Bool.or_true, Bool.true_or, Bool.or_false, Bool.false_or, Bool.not_true, Bool.not_false, Bool.and_self, if_true, if_false, Bool.false_eq_true, reduceIte, decide_true, decide_false, callIO, callPB, gatherA, backA, List.take_succ_cons, List.take_zero, atI0, atI1, atI2, atI3, Nat.reduceAdd, Nat.reduceSub, Int.reduceLT, Int.reduceLE, Int.reduceNeg, Int.reduceAdd, Int.reduceSub, Int.reduceMul, Nat.reduceLT, Nat.reduceLeDiff, Int.reduceEq, Int.reduceBEq, noObjs_T, frzs_T, noOwns_T, noShs_T, noShs_I, mn] <;> rfl) rfl) ?_
    rintro _ rfl
    have k1 : kitB "tuple" "tuple" = some true := rfl
    have pm : p ∈ other := (List.mem_filter.mp (show p ∈ few one other by rw [q]; exact List.mem_cons_self)).1
    have tcl := tuple_call (row := p.1) (by rw [ro p pm]; omega)
    have nn : oNe (.lst true (.tup (encI p.1) :: encR (qs.map Prod.fst))) (.lst true []) = some (.bl true) := by
      have tp : toPys (.tup (encI p.1) :: encR (qs.map Prod.fst)) = some ((p.1 :: qs.map Prod.fst).map rowD) := toPys_R (p.1 :: qs.map Prod.fst)
      have sh : ∀ l : List Row, SeqAt.shaped (.list (l.map rowD)) = true := fun l => by
        have c : PyData.canLayAll0 (l.map rowD) = true := by
          induction l with
          | nil => rfl
          | cons r l ih => simp only [List.map_cons, PyData.canLayAll0, canLay_row, ih, Bool.and_self]
        have d : PyData.depthAll (l.map rowD) ≤ 1 := by
          clear c
          induction l with
          | nil => simp [PyData.depthAll]
          | cons r l ih => simp only [List.map_cons, rowD, PyData.depthAll, PyData.depth, depth_I]; omega
        simp only [SeqAt.shaped, PyData.canLay0, c, PyData.depth, Bool.true_and]
        exact decide_eq_true (by omega)
      have sh0 : SeqAt.shaped (.list []) = true := rfl
      have e1 : toPy (.lst true (.tup (encI p.1) :: encR (qs.map Prod.fst))) = some (.list ((p.1 :: qs.map Prod.fst).map rowD)) := by
        show (toPys (.tup (encI p.1) :: encR (qs.map Prod.fst))).map PyData.list = _
        rw [tp]; rfl
      have e2 : toPy (.lst true []) = some (.list []) := rfl
      have e3 : PyData.eqv (.list ((p.1 :: qs.map Prod.fst).map rowD)) (.list []) = false := by
        simp only [List.map_cons, PyData.eqv, PyData.eqvAll]
      simp only [oNe, eqB, e1, e2, e3, Option.map_some, Option.bind_some, sh, sh0, Bool.and_self, if_true, Bool.not_false]
    have ef : oEq (.tup [.str "few", .tup (encI p.1)]) (.tup [.str "few", .tup (encI p.1)]) = some (.bl true) := by
      have tp : toPys [.str "few", .tup (encI p.1)] = some [.str "few", rowD p.1] := by
        simp only [toPys, toPy, toPys_I, Option.map_some, Option.bind_some]; rfl
      have so : PyData.strOk "few" = true := by decide +kernel
      have sh : SeqAt.shaped (.tuple [.str "few", rowD p.1]) = true := by
        simp only [SeqAt.shaped, PyData.canLay0, PyData.canLayAll0, so, canLay_row, PyData.depth, PyData.depthAll, rowD, depth_I, canLay_I, Bool.true_and, Bool.and_self]
        exact decide_eq_true (by omega)
      have se : (("few" : Str) == "few") = true := beq_self_eq_true _
      simp only [oEq, eqB, toPy, tp, Option.map_some, Option.bind_some, sh, Bool.and_self, if_true, PyData.eqv, PyData.eqvAll, se, eqv_row, decide_true]
    refine To.seq (m := fun _ => False) ?_ fun _ h => h.elim
    exact To.ret (by simp only [sSeq_ap, sNil_ap, sIf_ap, sSet_ap, sRet_ap, sRetN_ap, sDrop_ap, sAsg_ap, sFor_ap, sAug_ap, sAugL_ap, sPut_ap, mT_ap, mTest_ap, mF_ap, mP_ap, mMove_ap, mFrz_ap, mFz_ap, sRaiseI_ap, mOp2_ap, mOp1_ap, mOpS_ap, mIx_ap, mIxL_ap, mIte_ap, mNot_ap, mAnd_ap, mOr_ap, mAndV_ap, mOrV_ap, msNil_ap, msCons_ap, psNil_ap, psCons_ap, pVar_ap, pC_ap, pOp1_ap, pOp2_ap, pOpS_ap, pTest_ap, pNot_ap, pAnd_ap, pOr_ap, pVal_ap, pAndV_ap, pOrV_ap, pIte_ap, pChain_ap, pNo_ap, poNone_ap, poSome_ap, pSl_ap, pSeq_ap, mSeq_ap, pRng_ap, mRng_ap, pComp_ap, mComp_ap, pYes_ap, pMet_ap, mMet_ap, mMeth_ap, pIsi_ap, pGet2_ap, aNil_ap, aSlot_ap, aVal_ap, mCallIO_ap, mCall_ap, mCallP_ap, mCallPB_ap, oIsN_ap, oNotN_ap, oAdd_int, oSub_int, ipAdd_int, ipSub_int, oLt_int, oLe_int, oGt_int, oGe_int, oLt_str, oLe_str, oGt_str, oGe_str, oEq_int, oNe_int, oEq_bl, oNeg_int, oSubs_lst, oSubs_tup, oIx_lst, oIx_tup, oLen_lst, oLen_tup, oIn_str, oNotIn_str, seqOf_str, seqOf_tup, seqOf_lst, startS, RS.seq_nx, RS.seq_ret, RS.seq_brk, RS.seq_ct, RS.seq_err, RS.seq_bad, L2.DL.R.bind_ok, L2.DL.R.bind_err, L2.DL.R.bind_bad, rS_ok, rS_err, rS_bad, Option.bind_some, Option.bind_none, Option.map_some, Option.map_none, Option.join_some, gN, noOwn, noOwns, noObj, noObjs, noSh, noShs, frz, frzs, List.map_cons, List.map_nil, List.getElem?_cons_zero, List.getElem?_cons_succ, List.set_cons_zero, List.set_cons_succ, List.length_cons, List.length_nil, List.cons_append, List.nil_append, List.replicate, setS_nil, setS_cons, gsNil, gsCons, gTn, Bool.and_true, Bool.true_and, Bool.and_false, Bool.false_and, Bool.or_true, Bool.true_or, Bool.or_false, Bool.false_or, Bool.not_true, Bool.not_false, Bool.and_self, if_true, if_false, Bool.false_eq_true, reduceIte, decide_true, decide_false, callIO, callPB, gatherA, backA, List.take_succ_cons, List.take_zero, atI0, atI1, atI2, atI3, Nat.reduceAdd, Nat.reduceSub, Int.reduceLT, Int.reduceLE, Int.reduceNeg, Int.reduceAdd, Int.reduceSub, Int.reduceMul, Nat.reduceLT, Nat.reduceLeDiff, Int.reduceEq, Int.reduceBEq, gLstN_ap, sz0, sz2, nn, tyName, k1, tcl, gTupN_ap, noOwns_I, noOwns_T, ef, eq2] <;> rfl) rfl
  | nil =>
    rw [q] at mn
    dsimp only at mn
    have rl := subD_len other one
    have okS : okKeys (subD other one) := okKeys_of (subD_nodup other one T1.nd) fun p hp => subD_all (P := fun r => r.length = room.length) other one r1 ro p hp
    have scS := settled_call (o := true) okS (by omega)
    have sl := settle_len (D := subD other one)
    have rS : ∀ p ∈ lss one other, p.1.length = room.length := fun p hp => by
      obtain ⟨z1, _, _⟩ := mem_settle hp
      obtain ⟨z, hz, ez⟩ := List.mem_map.mp z1
      rw [← ez]
      exact subD_all (P := fun r => r.length = room.length) other one r1 ro z hz
    have smS : small (lss one other) := fun p hp => by rw [rS p hp]; omega
    have csS := fun o p => same_call (o := o) (p := p) smS (by unfold lss; omega)
    have gaS := ga (lss one other) (by unfold lss; omega)
    have e0 : settle (subD other one) = lss one other := rfl
    rw [e0] at scS
    refine To.seq (m := fun ρ => ρ = [some (.scr K ns), b, some (.tpz (encN room)), some (.lst false (encT one)), some (.lst false (encT other)), some (dV true (accD id other one)), x', y', some (.lst true [.lst true (encT one), .lst true (encT other)]), x9, some (.lst true [.int (tot one), .int (tot other)]), some (dV true one), some (.lst true []), some (.lst true (encT (lss one other)))]) (To.nxt (by simp only [sSeq_ap, sNil_ap, sIf_ap, sSet_ap, sRet_ap, sRetN_ap, sDrop_ap, sAsg_ap, sFor_ap, sAug_ap, sAugL_ap, sPut_ap, mT_ap, mTest_ap, mF_ap, mP_ap, mMove_ap, mFrz_ap, mFz_ap, sRaiseI_ap, mOp2_ap, mOp1_ap, mOpS_ap, mIx_ap, mIxL_ap, mIte_ap, mNot_ap, mAnd_ap, mOr_ap, mAndV_ap, mOrV_ap, msNil_ap, msCons_ap, psNil_ap, psCons_ap, pVar_ap, pC_ap, pOp1_ap, pOp2_ap, pOpS_ap, pTest_ap, pNot_ap, pAnd_ap, pOr_ap, pVal_ap, pAndV_ap, pOrV_ap, pIte_ap, pChain_ap, pNo_ap, poNone_ap, poSome_ap, pSl_ap, pSeq_ap, mSeq_ap, pRng_ap, mRng_ap, pComp_ap, mComp_ap, pYes_ap, pMet_ap, mMet_ap, mMeth_ap, pIsi_ap, pGet2_ap, aNil_ap, aSlot_ap, aVal_ap, mCallIO_ap, mCall_ap, mCallP_ap, mCallPB_ap, oIsN_ap, oNotN_ap, oAdd_int, oSub_int, ipAdd_int, ipSub_int, oLt_int, oLe_int, oGt_int, oGe_int, oLt_str, oLe_str, oGt_str, oGe_str, oEq_int, oNe_int, oEq_bl, oNeg_int, oSubs_lst, oSubs_tup, oIx_lst, oIx_tup, oLen_lst, oLen_tup, oIn_str, oNotIn_str, seqOf_str, seqOf_tup, seqOf_lst, startS, RS.seq_nx, RS.seq_ret, RS.seq_brk, RS.seq_ct, RS.seq_err, RS.seq_bad, L2.DL.R.bind_ok, L2.DL.R.bind_err, L2.DL.R.bind_bad, rS_ok, rS_err, rS_bad, Option.bind_some, Option.bind_none, Option.map_some, Option.map_none, Option.join_some, gN, noOwn, noOwns, noObj, noObjs, noSh, noShs, frz, frzs, List.map_cons, List.map_nil, List.getElem?_cons_zero, List.getElem?_cons_succ, List.set_cons_zero, List.set_cons_succ, List.length_cons, List.length_nil, List.cons_append, List.nil_append, List.replicate, setS_nil, setS_cons, gsNil, gsCons, gTn, Bool.and_true, Bool.true_and, Bool.and_false, Bool.false_and, Bool.or_true, Bool.true_or, Bool.or_false, Bool.false_or, Bool.not_true, Bool.not_false, Bool.and_self, if_true, if_false, Bool.false_eq_true, reduceIte, decide_true, decide_false, callIO, callPB, gatherA, backA, List.take_succ_cons, List.take_zero, atI0, atI1, atI2, atI3, Nat.reduceAdd, Nat.reduceSub, Int.reduceLT, Int.reduceLE, Int.reduceNeg, Int.reduceAdd, Int.reduceSub, Int.reduceMul, Nat.reduceLT, Nat.reduceLeDiff, Int.reduceEq, Int.reduceBEq, noObjs_T, frzs_T, noOwns_T, noShs_T, mn] <;> rfl) rfl) ?_
    rintro _ rfl
    have n0 : oNe (.lst true []) (.lst true []) = some (.bl false) := rfl
    refine To.seq (m := fun ρ => ρ = [some (.scr K ns), b, some (.tpz (encN room)), some (.lst false (encT one)), some (.lst false (encT other)), some (dV true (accD id other one)), x', y', some (.lst true [.lst true (encT one), .lst true (encT other)]), x9, some (.lst true [.int (tot one), .int (tot other)]), some (dV true one), some (.lst true []), some (.lst true (encT (lss one other)))]) (To.nxt (by simp only [sSeq_ap, sNil_ap, sIf_ap, sSet_ap, sRet_ap, sRetN_ap, sDrop_ap, sAsg_ap, sFor_ap, sAug_ap, sAugL_ap, sPut_ap, mT_ap, mTest_ap, mF_ap, mP_ap, mMove_ap, mFrz_ap, mFz_ap, sRaiseI_ap, mOp2_ap, mOp1_ap, mOpS_ap, mIx_ap, mIxL_ap, mIte_ap, mNot_ap, mAnd_ap, mOr_ap, mAndV_ap, mOrV_ap, msNil_ap, msCons_ap, psNil_ap, psCons_ap, pVar_ap, pC_ap, pOp1_ap, pOp2_ap, pOpS_ap, pTest_ap, pNot_ap, pAnd_ap, pOr_ap, pVal_ap, pAndV_ap, pOrV_ap, pIte_ap, pChain_ap, pNo_ap, poNone_ap, poSome_ap, pSl_ap, pSeq_ap, mSeq_ap, pRng_ap, mRng_ap, pComp_ap, mComp_ap, pYes_ap, pMet_ap, mMet_ap, mMeth_ap, pIsi_ap, pGet2_ap, aNil_ap, aSlot_ap, aVal_ap, mCallIO_ap, mCall_ap, mCallP_ap, mCallPB_ap, oIsN_ap, oNotN_ap, oAdd_int, oSub_int, ipAdd_int, ipSub_int, oLt_int, oLe_int, oGt_int, oGe_int, oLt_str, oLe_str, oGt_str, oGe_str, oEq_int, oNe_int, oEq_bl, oNeg_int, oSubs_lst, oSubs_tup, oIx_lst, oIx_tup, oLen_lst, oLen_tup, oIn_str, oNotIn_str, seqOf_str, seqOf_tup, seqOf_lst, startS, RS.seq_nx, RS.seq_ret, RS.seq_brk, RS.seq_ct, RS.seq_err, RS.seq_bad, L2.DL.R.bind_ok, L2.DL.R.bind_err, L2.DL.R.bind_bad, rS_ok, rS_err, rS_bad, Option.bind_some, Option.bind_none, Option.map_some, Option.map_none, Option.join_some, gN, noOwn, noOwns, noObj, noObjs, noSh, noShs, frz, frzs, List.map_cons, List.map_nil, List.getElem?_cons_zero, List.getElem?_cons_succ, List.set_cons_zero, List.set_cons_succ, List.length_cons, List.length_nil, List.cons_append, List.nil_append, List.replicate, setS_nil, setS_cons, gsNil, gsCons, gTn, Bool.and_true, Bool.true_and, Bool.and_false, Bool.false_and, Bool.or_true, Bool.true_or, Bool.or_false, Bool.false_or, Bool.not_true, Bool.not_false, Bool.and_self, if_true, if_false, Bool.false_eq_true, reduceIte, decide_true, decide_false, callIO, callPB, gatherA, backA, List.take_succ_cons, List.take_zero, atI0, atI1, atI2, atI3, Nat.reduceAdd, Nat.reduceSub, Int.reduceLT, Int.reduceLE, Int.reduceNeg, Int.reduceAdd, Int.reduceSub, Int.reduceMul, Nat.reduceLT, Nat.reduceLeDiff, Int.reduceEq, Int.reduceBEq, gLstN_ap, sz0, n0]) rfl) ?_
    rintro _ rfl
    have hm : ∀ p ∈ other, p.1 ∈ one.map Prod.fst := fun p hp => by
      by_cases hm : p.1 ∈ one.map Prod.fst
      · exact hm
      · exfalso
        have g0 : get0 one p.1 = 0 := by unfold get0; rw [look_none hm]; rfl
        have hq : p ∈ few one other := by
          unfold few
          rw [List.mem_filter]
          refine ⟨hp, decide_eq_true ?_⟩
          have := no p hp
          omega
        rw [q] at hq; cases hq
    obtain ⟨x2, y2, el2⟩ := loop2 (K := K) (a := some (.scr K ns)) (b := b) (c := some (.tpz (encN room))) (d := some (.lst false (encT one))) (e := some (.lst false (encT other))) (f := some (dV true (accD id other one))) (g := some (.lst true [.lst true (encT one), .lst true (encT other)])) (h := x9) (i := some (.lst true [.int (tot one), .int (tot other)])) (j := none) (short := some (.lst true [])) (back := some (.lst true (encT (lss one other)))) other one x' y' hm (by omega)
    refine To.seq (m := fun ρ => ρ = [some (.scr K ns), b, some (.tpz (encN room)), some (.lst false (encT one)), some (.lst false (encT other)), some (dV true (accD id other one)), x2, y2, some (.lst true [.lst true (encT one), .lst true (encT other)]), x9, some (.lst true [.int (tot one), .int (tot other)]), some (dV true (subD other one)), some (.lst true []), some (.lst true (encT (lss one other)))]) (To.nxt (by simp only [sSeq_ap, sNil_ap, sIf_ap, sSet_ap, sRet_ap, sRetN_ap, sDrop_ap, sAsg_ap, sFor_ap, sAug_ap, sAugL_ap, sPut_ap, mT_ap, mTest_ap, mF_ap, mP_ap, mMove_ap, mFrz_ap, mFz_ap, sRaiseI_ap, mOp2_ap, mOp1_ap, mOpS_ap, mIx_ap, mIxL_ap, mIte_ap, mNot_ap, mAnd_ap, mOr_ap, mAndV_ap, mOrV_ap, msNil_ap, msCons_ap, psNil_ap, psCons_ap, pVar_ap, pC_ap, pOp1_ap, pOp2_ap, pOpS_ap, pTest_ap, pNot_ap, pAnd_ap, pOr_ap, pVal_ap, pAndV_ap, pOrV_ap, pIte_ap, pChain_ap, pNo_ap, poNone_ap, poSome_ap, pSl_ap, pSeq_ap, mSeq_ap, pRng_ap, mRng_ap, pComp_ap, mComp_ap, pYes_ap, pMet_ap, mMet_ap, mMeth_ap, pIsi_ap, pGet2_ap, aNil_ap, aSlot_ap, aVal_ap, mCallIO_ap, mCall_ap, mCallP_ap, mCallPB_ap, oIsN_ap, oNotN_ap, oAdd_int, oSub_int, ipAdd_int, ipSub_int, oLt_int, oLe_int, oGt_int, oGe_int, oLt_str, oLe_str, oGt_str, oGe_str, oEq_int, oNe_int, oEq_bl, oNeg_int, oSubs_lst, oSubs_tup, oIx_lst, oIx_tup, oLen_lst, oLen_tup, oIn_str, oNotIn_str, seqOf_str, seqOf_tup, seqOf_lst, startS, RS.seq_nx, RS.seq_ret, RS.seq_brk, RS.seq_ct, RS.seq_err, RS.seq_bad, L2.DL.R.bind_ok, L2.DL.R.bind_err, L2.DL.R.bind_bad, rS_ok, rS_err, rS_bad, Option.bind_some, Option.bind_none, Option.map_some, Option.map_none, Option.join_some, gN, noOwn, noOwns, noObj, noObjs, noSh, noShs, frz, frzs, List.map_cons, List.map_nil, List.getElem?_cons_zero, List.getElem?_cons_succ, List.set_cons_zero, List.set_cons_succ, List.length_cons, List.length_nil, List.cons_append, List.nil_append, List.replicate, setS_nil, setS_cons, gsNil, gsCons, gTn, Bool.and_true, Bool.true_and, Bool.and_false, Bool.false_and, Bool.or_true, Bool.true_or, Bool.or_false, Bool.false_or, Bool.not_true, Bool.not_false, Bool.and_self, if_true, if_false, Bool.false_eq_true, reduceIte, decide_true, decide_false, callIO, callPB, gatherA, backA, List.take_succ_cons, List.take_zero, atI0, atI1, atI2, atI3, Nat.reduceAdd, Nat.reduceSub, Int.reduceLT, Int.reduceLE, Int.reduceNeg, Int.reduceAdd, Int.reduceSub, Int.reduceMul, Nat.reduceLT, Nat.reduceLeDiff, Int.reduceEq, Int.reduceBEq, noObjs_T, frzs_T, noOwns_T, el2]) rfl) ?_
    rintro _ rfl
    refine To.seq (m := fun ρ => ρ = [some (.scr K ns), b, some (.tpz (encN room)), some (.lst false (encT one)), some (.lst false (encT other)), some (dV true (accD id other one)), x2, y2, some (.lst true [.lst true (encT one), .lst true (encT other)]), x9, some (.lst true [.int (tot one), .int (tot other)]), some (dV true (subD other one)), some (.lst true []), some (.lst true (encT (lss one other)))]) (To.nxt (by simp only [sSeq_ap, sNil_ap, sIf_ap, sSet_ap, sRet_ap, sRetN_ap, sDrop_ap, sAsg_ap, sFor_ap, sAug_ap, sAugL_ap, sPut_ap, mT_ap, mTest_ap, mF_ap, mP_ap, mMove_ap, mFrz_ap, mFz_ap, sRaiseI_ap, mOp2_ap, mOp1_ap, mOpS_ap, mIx_ap, mIxL_ap, mIte_ap, mNot_ap, mAnd_ap, mOr_ap, mAndV_ap, mOrV_ap, msNil_ap, msCons_ap, psNil_ap, psCons_ap, pVar_ap, pC_ap, pOp1_ap, pOp2_ap, pOpS_ap, pTest_ap, pNot_ap, pAnd_ap, pOr_ap, pVal_ap, pAndV_ap, pOrV_ap, pIte_ap, pChain_ap, pNo_ap, poNone_ap, poSome_ap, pSl_ap, pSeq_ap, mSeq_ap, pRng_ap, mRng_ap, pComp_ap, mComp_ap, pYes_ap, pMet_ap, mMet_ap, mMeth_ap, pIsi_ap, pGet2_ap, aNil_ap, aSlot_ap, aVal_ap, mCallIO_ap, mCall_ap, mCallP_ap, mCallPB_ap, oIsN_ap, oNotN_ap, oAdd_int, oSub_int, ipAdd_int, ipSub_int, oLt_int, oLe_int, oGt_int, oGe_int, oLt_str, oLe_str, oGt_str, oGe_str, oEq_int, oNe_int, oEq_bl, oNeg_int, oSubs_lst, oSubs_tup, oIx_lst, oIx_tup, oLen_lst, oLen_tup, oIn_str, oNotIn_str, seqOf_str, seqOf_tup, seqOf_lst, startS, RS.seq_nx, RS.seq_ret, RS.seq_brk, RS.seq_ct, RS.seq_err, RS.seq_bad, L2.DL.R.bind_ok, L2.DL.R.bind_err, L2.DL.R.bind_bad, rS_ok, rS_err, rS_bad, Option.bind_some, Option.bind_none, Option.map_some, Option.map_none, Option.join_some, gN, noOwn, noOwns, noObj, noObjs, noSh, noShs, frz, frzs, List.map_cons, List.map_nil, List.getElem?_cons_zero, List.getElem?_cons_succ, List.set_cons_zero, List.set_cons_succ, List.length_cons, List.length_nil, List.cons_append, List.nil_append, List.replicate, setS_nil, setS_cons, gsNil, gsCons, gTn, Bool.and_true, Bool.true_and, Bool.and_false, Bool.false_and, Bool.or_true, Bool.true_or, Bool.or_false, Bool.false_or, Bool.not_true, Bool.not_false, Bool.and_self, if_true, if_false, Bool.false_eq_true, reduceIte, decide_true, decide_false, callIO, callPB, gatherA, backA, List.take_succ_cons, List.take_zero, atI0, atI1, atI2, atI3, Nat.reduceAdd, Nat.reduceSub, Int.reduceLT, Int.reduceLE, Int.reduceNeg, Int.reduceAdd, Int.reduceSub, Int.reduceMul, Nat.reduceLT, Nat.reduceLeDiff, Int.reduceEq, Int.reduceBEq, scS, csS]) rfl) ?_
    rintro _ rfl
    refine To.seq (m := fun ρ => ∃ x13, ρ = [some (.scr K ns), b, some (.tpz (encN room)), some (.lst false (encT one)), some (.lst false (encT other)), some (dV true (accD id other one)), x2, y2, some (.lst true [.lst true (encT one), .lst true (encT other)]), x9, some (.lst true [.int (tot one), .int (tot other)]), some (dV true (subD other one)), some (.lst true []), x13]) (To.nxt (by simp only [sSeq_ap, sNil_ap, sIf_ap, sSet_ap, sRet_ap, sRetN_ap, sDrop_ap, sAsg_ap, sFor_ap, sAug_ap, sAugL_ap, sPut_ap, mT_ap, mTest_ap, mF_ap, mP_ap, mMove_ap, mFrz_ap, mFz_ap, sRaiseI_ap, mOp2_ap, mOp1_ap, mOpS_ap, mIx_ap, mIxL_ap, mIte_ap, mNot_ap, mAnd_ap, mOr_ap, mAndV_ap, mOrV_ap, msNil_ap, msCons_ap, psNil_ap, psCons_ap, pVar_ap, pC_ap, pOp1_ap, pOp2_ap, pOpS_ap, pTest_ap, pNot_ap, pAnd_ap, pOr_ap, pVal_ap, pAndV_ap, pOrV_ap, pIte_ap, pChain_ap, pNo_ap, poNone_ap, poSome_ap, pSl_ap, pSeq_ap, mSeq_ap, pRng_ap, mRng_ap, pComp_ap, mComp_ap, pYes_ap, pMet_ap, mMet_ap, mMeth_ap, pIsi_ap, pGet2_ap, aNil_ap, aSlot_ap, aVal_ap, mCallIO_ap, mCall_ap, mCallP_ap, mCallPB_ap, oIsN_ap, oNotN_ap, oAdd_int, oSub_int, ipAdd_int, ipSub_int, oLt_int, oLe_int, oGt_int, oGe_int, oLt_str, oLe_str, oGt_str, oGe_str, oEq_int, oNe_int, oEq_bl, oNeg_int, oSubs_lst, oSubs_tup, oIx_lst, oIx_tup, oLen_lst, oLen_tup, oIn_str, oNotIn_str, seqOf_str, seqOf_tup, seqOf_lst, startS, RS.seq_nx, RS.seq_ret, RS.seq_brk, RS.seq_ct, RS.seq_err, RS.seq_bad, L2.DL.R.bind_ok, L2.DL.R.bind_err, L2.DL.R.bind_bad, rS_ok, rS_err, rS_bad, Option.bind_some, Option.bind_none, Option.map_some, Option.map_none, Option.join_some, gN, noOwn, noOwns, noObj, noObjs, noSh, noShs, frz, frzs, List.map_cons, List.map_nil, List.getElem?_cons_zero, List.getElem?_cons_succ, List.set_cons_zero, List.set_cons_succ, List.length_cons, List.length_nil, List.cons_append, List.nil_append, List.replicate, setS_nil, setS_cons, gsNil, gsCons, gTn, Bool.and_true, Bool.true_and, Bool.and_false, Bool.false_and, Bool.or_true, Bool.true_or, Bool.or_false, Bool.false_or, Bool.not_true, Bool.not_false, Bool.and_self, if_true, if_false, Bool.false_eq_true, reduceIte, decide_true, decide_false, callIO, callPB, gatherA, backA, List.take_succ_cons, List.take_zero, atI0, atI1, atI2, atI3, Nat.reduceAdd, Nat.reduceSub, Int.reduceLT, Int.reduceLE, Int.reduceNeg, Int.reduceAdd, Int.reduceSub, Int.reduceMul, Nat.reduceLT, Nat.reduceLeDiff, Int.reduceEq, Int.reduceBEq, gaS] <;> rfl) ⟨_, rfl⟩) ?_
    rintro _ ⟨x13, rfl⟩
    exact To.ret (by simp only [sSeq_ap, sNil_ap, sIf_ap, sSet_ap, sRet_ap, sRetN_ap, sDrop_ap, sAsg_ap, sFor_ap, sAug_ap, sAugL_ap, sPut_ap, mT_ap, mTest_ap, mF_ap, mP_ap, mMove_ap, mFrz_ap, mFz_ap, sRaiseI_ap, mOp2_ap, mOp1_ap, mOpS_ap, mIx_ap, mIxL_ap, mIte_ap, mNot_ap, mAnd_ap, mOr_ap, mAndV_ap, mOrV_ap, msNil_ap, msCons_ap, psNil_ap, psCons_ap, pVar_ap, pC_ap, pOp1_ap, pOp2_ap, pOpS_ap, pTest_ap, pNot_ap, pAnd_ap, pOr_ap, pVal_ap, pAndV_ap, pOrV_ap, pIte_ap, pChain_ap, pNo_ap, poNone_ap, poSome_ap, pSl_ap, pSeq_ap, mSeq_ap, pRng_ap, mRng_ap, pComp_ap, mComp_ap, pYes_ap, pMet_ap, mMet_ap, mMeth_ap, pIsi_ap, pGet2_ap, aNil_ap, aSlot_ap, aVal_ap, mCallIO_ap, mCall_ap, mCallP_ap, mCallPB_ap, oIsN_ap, oNotN_ap, oAdd_int, oSub_int, ipAdd_int, ipSub_int, oLt_int, oLe_int, oGt_int, oGe_int, oLt_str, oLe_str, oGt_str, oGe_str, oEq_int, oNe_int, oEq_bl, oNeg_int, oSubs_lst, oSubs_tup, oIx_lst, oIx_tup, oLen_lst, oLen_tup, oIn_str, oNotIn_str, seqOf_str, seqOf_tup, seqOf_lst, startS, RS.seq_nx, RS.seq_ret, RS.seq_brk, RS.seq_ct, RS.seq_err, RS.seq_bad, L2.DL.R.bind_ok, L2.DL.R.bind_err, L2.DL.R.bind_bad, rS_ok, rS_err, rS_bad, Option.bind_some, Option.bind_none, Option.map_some, Option.map_none, Option.join_some, gN, noOwn, noOwns, noObj, noObjs, noSh, noShs, frz, frzs, List.map_cons, List.map_nil, List.getElem?_cons_zero, List.getElem?_cons_succ, List.set_cons_zero, List.set_cons_succ, List.length_cons, List.length_nil, List.cons_append, List.nil_append, List.replicate, setS_nil, setS_cons, gsNil, gsCons, gTn, Bool.and_true, Bool.true_and, Bool.and_false, Bool.false_and, Bool.or_true, Bool.true_or, Bool.or_false, Bool.false_or, Bool.not_true, Bool.not_false, Bool.and_self, if_true, if_false, Bool.false_eq_true, reduceIte, decide_true, decide_false, callIO, callPB, gatherA, backA, List.take_succ_cons, List.take_zero, atI0, atI1, atI2, atI3, Nat.reduceAdd, Nat.reduceSub, Int.reduceLT, Int.reduceLE, Int.reduceNeg, Int.reduceAdd, Int.reduceSub, Int.reduceMul, Nat.reduceLT, Nat.reduceLeDiff, Int.reduceEq, Int.reduceBEq, g2, eq2] <;> rfl) rfl
end RT

namespace RT
open L2 PyProof.Rows PySem.Spec PySem L2.DL
def topS (i : Nat) : Stmt := PySem.Challenge.pw_roomtally_k08_tallies_added_and_taken.main.body.getD i (.Pass ⟨0, 0, 0, 0⟩)
abbrev s_settled : Stmt := topS 4
abbrev N_settled : List Str := ["counts", "row"]
theorem sc_settled : FnScope N_settled ["counts"] (defScope s_settled) := ⟨rfl, rfl, rfl, by decide +kernel, rfl, by decide +kernel, by decide +kernel⟩
abbrev s_counted : Stmt := topS 5
abbrev N_counted : List Str := ["rows", "counts", "row", "count"]
theorem sc_counted : FnScope N_counted ["rows"] (defScope s_counted) := ⟨rfl, rfl, rfl, by decide +kernel, rfl, by decide +kernel, by decide +kernel⟩
abbrev s_total : Stmt := topS 8
abbrev N_total : List Str := ["rows", "row", "count"]
theorem sc_total : FnScope N_total ["rows"] (defScope s_total) := ⟨rfl, rfl, rfl, by decide +kernel, rfl, by decide +kernel, by decide +kernel⟩
abbrev s__law_bag : Stmt := topS 10
abbrev N__law_bag : List Str := ["_law_script", "_law_salt", "_law_one"]
theorem sc__law_bag : FnScope N__law_bag ["_law_script"] (defScope s__law_bag) := ⟨rfl, rfl, rfl, by decide +kernel, rfl, by decide +kernel, by decide +kernel⟩
abbrev s__law_pull : Stmt := topS 11
abbrev N__law_pull : List Str := ["_law_bag_here", "_law_many_here", "_law_seed", "_law_mixed", "_law_drawn_here"]
theorem sc__law_pull : FnScope N__law_pull ["_law_bag_here", "_law_many_here"] (defScope s__law_pull) := ⟨rfl, rfl, rfl, by decide +kernel, rfl, by decide +kernel, by decide +kernel⟩
abbrev s__law_settled : Stmt := topS 16
abbrev N__law_settled : List Str := ["_law_counts", "_law_row"]
theorem sc__law_settled : FnScope N__law_settled ["_law_counts"] (defScope s__law_settled) := ⟨rfl, rfl, rfl, by decide +kernel, rfl, by decide +kernel, by decide +kernel⟩
abbrev s__law_whole : Stmt := topS 18
abbrev N__law_whole : List Str := ["_law_found"]
theorem sc__law_whole : FnScope N__law_whole ["_law_found"] (defScope s__law_whole) := ⟨rfl, rfl, rfl, by decide +kernel, rfl, by decide +kernel, by decide +kernel⟩
abbrev s_plus : Stmt := topS 6
abbrev N_plus : List Str := ["one", "other", "counts", "row", "count"]
theorem sc_plus : FnScope N_plus ["one", "other"] (defScope s_plus) := ⟨rfl, rfl, rfl, by decide +kernel, rfl, by decide +kernel, by decide +kernel⟩
abbrev s__law_word : Stmt := topS 12
abbrev N__law_word : List Str := ["_law_bag_here", "_law_size", "_law_letters", "_law_k"]
theorem sc__law_word : FnScope N__law_word ["_law_bag_here", "_law_size"] (defScope s__law_word) := ⟨rfl, rfl, rfl, by decide +kernel, rfl, by decide +kernel, by decide +kernel⟩
abbrev s__law_answers : Stmt := topS 14
abbrev N__law_answers : List Str := ["_law_bag_here", "_law_size", "_law_base", "_law_k"]
theorem sc__law_answers : FnScope N__law_answers ["_law_bag_here", "_law_size", "_law_base"] (defScope s__law_answers) := ⟨rfl, rfl, rfl, by decide +kernel, rfl, by decide +kernel, by decide +kernel⟩
abbrev s__law_many : Stmt := topS 15
abbrev N__law_many : List Str := ["_law_bag_here"]
theorem sc__law_many : FnScope N__law_many ["_law_bag_here"] (defScope s__law_many) := ⟨rfl, rfl, rfl, by decide +kernel, rfl, by decide +kernel, by decide +kernel⟩
abbrev s__law_tuple : Stmt := topS 19
abbrev N__law_tuple : List Str := ["_law_found", "_law_one"]
theorem sc__law_tuple : FnScope N__law_tuple ["_law_found"] (defScope s__law_tuple) := ⟨rfl, rfl, rfl, by decide +kernel, rfl, by decide +kernel, by decide +kernel⟩
abbrev s_less : Stmt := topS 7
abbrev N_less : List Str := ["one", "other", "counts", "row", "count"]
theorem sc_less : FnScope N_less ["one", "other"] (defScope s_less) := ⟨rfl, rfl, rfl, by decide +kernel, rfl, by decide +kernel, by decide +kernel⟩
abbrev s__law_names : Stmt := topS 13
abbrev N__law_names : List Str := ["_law_bag_here", "_law_many_here", "_law_letters", "_law_found", "_law_start", "_law_k", "_law_word_here", "_law_step"]
theorem sc__law_names : FnScope N__law_names ["_law_bag_here", "_law_many_here"] (defScope s__law_names) := ⟨rfl, rfl, rfl, by decide +kernel, rfl, by decide +kernel, by decide +kernel⟩
abbrev s__law_drawn : Stmt := topS 17
abbrev N__law_drawn : List Str := ["_law_bag_here", "_law_room", "_law_counts", "_law_base", "_law_k"]
theorem sc__law_drawn : FnScope N__law_drawn ["_law_bag_here", "_law_room"] (defScope s__law_drawn) := ⟨rfl, rfl, rfl, by decide +kernel, rfl, by decide +kernel, by decide +kernel⟩
abbrev s__law_same : Stmt := topS 20
abbrev N__law_same : List Str := ["_law_found", "_law_due", "_law_k"]
theorem sc__law_same : FnScope N__law_same ["_law_found", "_law_due"] (defScope s__law_same) := ⟨rfl, rfl, rfl, by decide +kernel, rfl, by decide +kernel, by decide +kernel⟩
abbrev s__law_minus : Stmt := topS 21
abbrev N__law_minus : List Str := ["_law_one", "_law_other", "_law_found", "e"]
theorem sc__law_minus : FnScope N__law_minus ["_law_one", "_law_other"] (defScope s__law_minus) := ⟨rfl, rfl, rfl, by decide +kernel, rfl, by decide +kernel, by decide +kernel⟩
abbrev s_law : Stmt := topS 22
abbrev N_law : List Str := ["_law_script", "_law_bag_here", "_law_names_here", "_law_one", "_law_other", "_law_counts", "_law_row", "_law_count", "_law_handed", "_law_found", "_law_sums", "_law_rest", "_law_short", "_law_back"]
theorem sc_law : FnScope N_law ["_law_script"] (defScope s_law) := ⟨rfl, rfl, rfl, by decide +kernel, rfl, by decide +kernel, by decide +kernel⟩
def clsS_TooFew : Stmt := match topS 2 with
  | .ClassDef _ _ _ b _ _ _ _ _ _ _ => b.getD 0 (.Pass ⟨0, 0, 0, 0⟩)
  | st => st
abbrev si_TooFew : Stmt := clsS_TooFew
theorem sci_TooFew : FnScope ["self", "row"] ["self", "row"] (defScope si_TooFew) := ⟨rfl, rfl, rfl, by decide +kernel, rfl, by decide +kernel, by decide +kernel⟩
structure Txt (K : PySem.W.Frag) (mg : MG) where
  (f_settled : Addr) (d_settled : FuncData) (F_settled : Fun K "settled" "settled" s_settled f_settled d_settled) (g_settled : mg "settled" = some (.ref f_settled)) (b_settled : Binds K d_settled ["counts"] [])
  (f_counted : Addr) (d_counted : FuncData) (F_counted : Fun K "counted" "counted" s_counted f_counted d_counted) (g_counted : mg "counted" = some (.ref f_counted)) (b_counted : Binds K d_counted ["rows"] [])
  (f_total : Addr) (d_total : FuncData) (F_total : Fun K "total" "total" s_total f_total d_total) (g_total : mg "total" = some (.ref f_total)) (b_total : Binds K d_total ["rows"] [])
  (f__law_bag : Addr) (d__law_bag : FuncData) (F__law_bag : Fun K "_law_bag" "_law_bag" s__law_bag f__law_bag d__law_bag) (g__law_bag : mg "_law_bag" = some (.ref f__law_bag)) (b__law_bag : Binds K d__law_bag ["_law_script"] [])
  (f__law_pull : Addr) (d__law_pull : FuncData) (F__law_pull : Fun K "_law_pull" "_law_pull" s__law_pull f__law_pull d__law_pull) (g__law_pull : mg "_law_pull" = some (.ref f__law_pull)) (b__law_pull : Binds K d__law_pull ["_law_bag_here", "_law_many_here"] [])
  (f__law_settled : Addr) (d__law_settled : FuncData) (F__law_settled : Fun K "_law_settled" "_law_settled" s__law_settled f__law_settled d__law_settled) (g__law_settled : mg "_law_settled" = some (.ref f__law_settled)) (b__law_settled : Binds K d__law_settled ["_law_counts"] [])
  (f__law_whole : Addr) (d__law_whole : FuncData) (F__law_whole : Fun K "_law_whole" "_law_whole" s__law_whole f__law_whole d__law_whole) (g__law_whole : mg "_law_whole" = some (.ref f__law_whole)) (b__law_whole : Binds K d__law_whole ["_law_found"] [])
  (f_plus : Addr) (d_plus : FuncData) (F_plus : Fun K "plus" "plus" s_plus f_plus d_plus) (g_plus : mg "plus" = some (.ref f_plus)) (b_plus : Binds K d_plus ["one", "other"] [])
  (f__law_word : Addr) (d__law_word : FuncData) (F__law_word : Fun K "_law_word" "_law_word" s__law_word f__law_word d__law_word) (g__law_word : mg "_law_word" = some (.ref f__law_word)) (b__law_word : Binds K d__law_word ["_law_bag_here", "_law_size"] [])
  (f__law_answers : Addr) (d__law_answers : FuncData) (F__law_answers : Fun K "_law_answers" "_law_answers" s__law_answers f__law_answers d__law_answers) (g__law_answers : mg "_law_answers" = some (.ref f__law_answers)) (b__law_answers : Binds K d__law_answers ["_law_bag_here", "_law_size", "_law_base"] [])
  (f__law_many : Addr) (d__law_many : FuncData) (F__law_many : Fun K "_law_many" "_law_many" s__law_many f__law_many d__law_many) (g__law_many : mg "_law_many" = some (.ref f__law_many)) (b__law_many : Binds K d__law_many ["_law_bag_here"] [])
  (f__law_tuple : Addr) (d__law_tuple : FuncData) (F__law_tuple : Fun K "_law_tuple" "_law_tuple" s__law_tuple f__law_tuple d__law_tuple) (g__law_tuple : mg "_law_tuple" = some (.ref f__law_tuple)) (b__law_tuple : Binds K d__law_tuple ["_law_found"] [])
  (f_less : Addr) (d_less : FuncData) (F_less : Fun K "less" "less" s_less f_less d_less) (g_less : mg "less" = some (.ref f_less)) (b_less : Binds K d_less ["one", "other"] [])
  (f__law_names : Addr) (d__law_names : FuncData) (F__law_names : Fun K "_law_names" "_law_names" s__law_names f__law_names d__law_names) (g__law_names : mg "_law_names" = some (.ref f__law_names)) (b__law_names : Binds K d__law_names ["_law_bag_here", "_law_many_here"] [])
  (f__law_drawn : Addr) (d__law_drawn : FuncData) (F__law_drawn : Fun K "_law_drawn" "_law_drawn" s__law_drawn f__law_drawn d__law_drawn) (g__law_drawn : mg "_law_drawn" = some (.ref f__law_drawn)) (b__law_drawn : Binds K d__law_drawn ["_law_bag_here", "_law_room"] [])
  (f__law_same : Addr) (d__law_same : FuncData) (F__law_same : Fun K "_law_same" "_law_same" s__law_same f__law_same d__law_same) (g__law_same : mg "_law_same" = some (.ref f__law_same)) (b__law_same : Binds K d__law_same ["_law_found", "_law_due"] [])
  (f__law_minus : Addr) (d__law_minus : FuncData) (F__law_minus : Fun K "_law_minus" "_law_minus" s__law_minus f__law_minus d__law_minus) (g__law_minus : mg "_law_minus" = some (.ref f__law_minus)) (b__law_minus : Binds K d__law_minus ["_law_one", "_law_other"] [])
  (f_law : Addr) (d_law : FuncData) (F_law : Fun K "law" "law" s_law f_law d_law) (g_law : mg "law" = some (.ref f_law)) (b_law : Binds K d_law ["_law_script"] [])
  (z_all : mg "all" = none)
  (z_bool : mg "bool" = none)
  (z_dict : mg "dict" = none)
  (z_int : mg "int" = none)
  (z_isinstance : mg "isinstance" = none)
  (z_len : mg "len" = none)
  (z_list : mg "list" = none)
  (z_range : mg "range" = none)
  (z_sorted : mg "sorted" = none)
  (z_sum : mg "sum" = none)
  (z_tuple : mg "tuple" = none)
  (C_TooFew : Addr) (gC_TooFew : mg "TooFew" = some (.ref C_TooFew))
  (oX_TooFew : OexC K C_TooFew) (fI_TooFew : Addr) (dI_TooFew : FuncData) (iX_TooFew : PySem.W.findIn K (.ref C_TooFew) "__init__" = some (some (.ref fI_TooFew))) (tX_TooFew : PySem.W.typeIn K (.ref fI_TooFew) = some (.type "function")) (FX_TooFew : Fun K "__init__" "TooFew.__init__" si_TooFew fI_TooFew dI_TooFew) (bX_TooFew : Binds K dI_TooFew ["self", "row"] []) (nX_TooFew : PySem.W.findIn K (.ref C_TooFew) "row" = some none) (xX_TooFew : XfC K C_TooFew)
  (x_TooFew_TooFew : PySem.W.exmOne K (.ref C_TooFew) (.ref C_TooFew) = some true)
section
variable {P : Program} {w : World} {K : PySem.W.Frag} {mg : MG} {base : Heap}
theorem ok_init_TooFew (T : Txt K mg) : FnOk P w K mg base CX0 1 T.fI_TooFew T.dI_TooFew ["self", "row"] (spInit K "row") := fn_init T.FX_TooFew sci_TooFew fun cdv A outer s H E => pss_one (ps_ost (pv 0) (pv 1))
theorem bd_settled (T : Txt K mg) : BodyOk P w K mg base N_settled "settled" (defScope s_settled) T.f_settled 0 (defBody s_settled) 1 (g_law_settled) := fun cdv A outer s H E hr tk hp =>
    (dss_one (ds_ret (dv_f (df_compV (by rfl) (by exact sc_settled.nd) (dip_seq (DF.dp (df_callB (cr_sortedD (rm64 hr)) vsorted (by rfl) T.z_sorted (by decide +kernel) (ds_cons (DF.dp (df_callTy (call_listAll rfl) vlist (by rfl) T.z_list (by decide +kernel) (ds_cons (dp_var 0) ds_nil))) ds_nil)))) (blkOk_by (N := N_settled) (sc := defScope s_settled) (own := [("row", 1)]) (by decide +kernel)) (fun s_ H_ C_ cl_ fp_ => (dg_name 1 sc_settled.nd)) (fun s_ H_ C_ cl_ fp_ => (dts_one (dt_cmp (op_neD (rm64 hr)) vop_ne (dp_sub (rm1 hr) (dp_var 0) (dp_var 1) (fun _ _ => rfl) (fun _ _ => rfl)) (DF.dp df_int) rfl))) (fun s_ H_ C_ cl_ fp_ => (df_tup (ds_cons (dp_var 1) (ds_cons (dp_sub (rm1 hr) (dp_var 0) (dp_var 1) (fun _ _ => rfl) (fun _ _ => rfl)) ds_nil))))))))
theorem ok_settled (T : Txt K mg) : FnOk P w K mg base (L2.CX P w) 1 T.f_settled T.d_settled ["counts"] (spP mg 1 (m_law_settled)) := fn_pure T.F_settled sc_settled (bd_settled T)
theorem bd_counted (T : Txt K mg) : BodyOk P w K mg base N_counted "counted" (defScope s_counted) T.f_counted 0 (defBody s_counted) 1 (g_counted) := fun cdv A outer s H E hr tk hp =>
    (dss_cons (ds_set 1 (dv_f df_dnewT) sc_counted.nd)
    (dss_cons (ds_for hp rfl (di_seq (dv_p (dp_var 0))) (dg_tup 2 (by rfl) (dgs_cons (dg_name 2 sc_counted.nd) (dgs_cons (dg_name 3 sc_counted.nd) dgs_nil))) (dss_one (ds_put 1 (rm1 hr) (dv_p (dp_var 3)) (dv_p (dp_var 2)))))
    (dss_one (ds_ret (dv_move 1)))))
theorem ok_counted (T : Txt K mg) : FnOk P w K mg base (L2.CX P w) 1 T.f_counted T.d_counted ["rows"] (spP mg 1 (m_counted)) := fn_pure T.F_counted sc_counted (bd_counted T)
theorem bd_total (T : Txt K mg) : BodyOk P w K mg base N_total "total" (defScope s_total) T.f_total 0 (defBody s_total) 1 (g_total) := fun cdv A outer s H E hr tk hp =>
    (dss_one (ds_ret (dv_f (df_callB (cr_sum rfl) vsum (by rfl) T.z_sum (by decide +kernel) (ds_cons (DF.dp (df_compV (by rfl) (by exact sc_total.nd) (dip_seq (dp_var 0)) (blkOk_by (N := N_total) (sc := defScope s_total) (own := [("row", 1), ("count", 2)]) (by decide +kernel)) (fun s_ H_ C_ cl_ fp_ => (dg_tup 2 (by rfl) (dgs_cons (dg_name 1 sc_total.nd) (dgs_cons (dg_name 2 sc_total.nd) dgs_nil)))) (fun s_ H_ C_ cl_ fp_ => dts_nil) (fun s_ H_ C_ cl_ fp_ => (df_no (dp_var 2))))) ds_nil)))))
theorem ok_total (T : Txt K mg) : FnOk P w K mg base (L2.CX P w) 1 T.f_total T.d_total ["rows"] (spP mg 1 (m_total)) := fn_pure T.F_total sc_total (bd_total T)
theorem bd__law_bag (T : Txt K mg) : BodyOk P w K mg base N__law_bag "_law_bag" (defScope s__law_bag) T.f__law_bag 0 (defBody s__law_bag) 1 (g_law_bag K) := fun cdv A outer s H E hr tk hp =>
    (dss_cons (ds_set 1 (dv_f (df_callB call_len vlen (by rfl) T.z_len (by decide +kernel) (ds_cons (DF.dp (df_slice (dp_var 0) dpo_none (dpo_some (DF.dp df_int)))) ds_nil))) sc__law_bag.nd)
    (dss_cons (ds_for hp rfl (di_seq (dv_f (df_slice (dp_var 0) dpo_none (dpo_some (DF.dp df_int))))) (dg_name 2 sc__law_bag.nd) (dss_one (ds_set 1 (dv_f (df_op2 op_mod vop_mod (DF.dp (df_op2 op_addAll vop_add (DF.dp (df_op2 op_mul vop_mul (dp_var 1) (DF.dp df_int))) (dp_var 2))) (DF.dp df_int))) sc__law_bag.nd)))
    (dss_one (ds_ret (dv_lst (dvs_cons (dv_f (df_callTy (call_listAll rfl) vlist (by rfl) T.z_list (by decide +kernel) (ds_cons (DF.dp (df_slice (dp_var 0) dpo_none (dpo_some (DF.dp df_int)))) ds_nil))) (dvs_cons (dv_f df_int) (dvs_cons (dv_f df_int) (dvs_cons (dv_p (dp_var 1)) dvs_nil)))))))))
theorem ok__law_bag (T : Txt K mg) : FnOk P w K mg base (L2.CX P w) 1 T.f__law_bag T.d__law_bag ["_law_script"] (spP mg 1 (m_law_bag K)) := fn_pure T.F__law_bag sc__law_bag (bd__law_bag T)
theorem bd__law_pull (T : Txt K mg) : BodyOk P w K mg base N__law_pull "_law_pull" (defScope s__law_pull) T.f__law_pull 0 (defBody s__law_pull) 2 (g_law_pull) := fun cdv A outer s H E hr tk hp =>
    (dss_cons (ds_if (dvt_p (dt_cmp op_leA vop_cmp (dp_sub (rm1 hr) (dp_var 0) (DF.dp df_int) (fun _ _ => rfl) (fun _ _ => rfl)) (DF.dp df_int) rfl)) (dss_cons (ds_augL 0 ip_add vip_add (DF.dp df_int) (DF.dp df_int))
    (dss_cons (ds_set 2 (dv_p (dp_sub (rm1 hr) (dp_var 0) (DF.dp df_int) (fun _ _ => rfl) (fun _ _ => rfl))) sc__law_pull.nd)
    (dss_cons (ds_if (dvt_p (dt_cmp op_leA vop_cmp (dp_sub (rm1 hr) (dp_var 0) (DF.dp df_int) (fun _ _ => rfl) (fun _ _ => rfl)) (DF.dp (df_callB call_len vlen (by rfl) T.z_len (by decide +kernel) (ds_cons (dp_sub (rm1 hr) (dp_var 0) (DF.dp df_int) (fun _ _ => rfl) (fun _ _ => rfl)) ds_nil))) rfl)) (dss_one (ds_set 2 (dv_p (dp_sub (rm1 hr) (dp_sub (rm1 hr) (dp_var 0) (DF.dp df_int) (fun _ _ => rfl) (fun _ _ => rfl)) (DF.dp (df_op2 op_sub vop_sub (dp_sub (rm1 hr) (dp_var 0) (DF.dp df_int) (fun _ _ => rfl) (fun _ _ => rfl)) (DF.dp df_int))) (fun _ _ => rfl) (fun _ _ => rfl))) sc__law_pull.nd)) dss_nil)
    (dss_cons (ds_if (dvt_p (DW.dt (dw_or (dt_cmp op_gtA vop_cmp (dp_sub (rm1 hr) (dp_var 0) (DF.dp df_int) (fun _ _ => rfl) (fun _ _ => rfl)) (DF.dp (df_callB call_len vlen (by rfl) T.z_len (by decide +kernel) (ds_cons (dp_sub (rm1 hr) (dp_var 0) (DF.dp df_int) (fun _ _ => rfl) (fun _ _ => rfl)) ds_nil))) rfl) (dw_or1 (dt_cmp op_ltA vop_cmp (dp_var 2) (DF.dp (df_op2 op_pow vop_pow (DF.dp df_int) (DF.dp df_int))) rfl))))) (dss_cons (ds_set 3 (dv_f (df_op2 op_mod vop_mod (DF.dp (df_op2 op_addAll vop_add (DF.dp (df_op2 op_addAll vop_add (DF.dp (df_op2 op_mul vop_mul (dp_var 2) (DF.dp df_int))) (DF.dp (df_op2 op_mul vop_mul (dp_sub (rm1 hr) (dp_var 0) (DF.dp df_int) (fun _ _ => rfl) (fun _ _ => rfl)) (DF.dp df_int))))) (DF.dp df_int))) (DF.dp df_int))) sc__law_pull.nd)
    (dss_cons (ds_set 3 (dv_f (df_op2 op_mod vop_mod (DF.dp (df_op2 op_mul vop_mul (dp_var 3) (dp_var 3))) (DF.dp df_int))) sc__law_pull.nd)
    (dss_one (ds_ret (dv_f (df_op2 op_mod vop_mod (DF.dp (df_op2 op_fdivW vop_div (DF.dp (df_op2 op_mod vop_mod (DF.dp (df_op2 op_mul vop_mul (DF.dp (df_op2 op_addAll vop_add (dp_var 3) (dp_sub (rm1 hr) (dp_var 0) (DF.dp df_int) (fun _ _ => rfl) (fun _ _ => rfl)))) (DF.dp df_int))) (DF.dp df_int))) (DF.dp df_int))) (dp_var 1))))))) dss_nil)
    (dss_one (ds_put 0 (rm1 hr) (dv_p (dp_var 2)) (dv_f df_int))))))) dss_nil)
    (dss_cons (ds_set 4 (dv_f (df_op2 op_mod vop_mod (dp_sub (rm1 hr) (dp_var 0) (DF.dp df_int) (fun _ _ => rfl) (fun _ _ => rfl)) (dp_var 1))) sc__law_pull.nd)
    (dss_cons (ds_put 0 (rm1 hr) (dv_f (df_op2 op_fdivW vop_div (dp_sub (rm1 hr) (dp_var 0) (DF.dp df_int) (fun _ _ => rfl) (fun _ _ => rfl)) (dp_var 1))) (dv_f df_int))
    (dss_one (ds_ret (dv_move 4))))))
theorem ok__law_pull (T : Txt K mg) : FnOk P w K mg base (L2.CX P w) 1 T.f__law_pull T.d__law_pull ["_law_bag_here", "_law_many_here"] (spIO mg 2 (m_law_pull)) := fn_io T.F__law_pull sc__law_pull (bd__law_pull T)
theorem bd__law_settled (T : Txt K mg) : BodyOk P w K mg base N__law_settled "_law_settled" (defScope s__law_settled) T.f__law_settled 0 (defBody s__law_settled) 1 (g_law_settled) := fun cdv A outer s H E hr tk hp =>
    (dss_one (ds_ret (dv_f (df_compV (by rfl) (by exact sc__law_settled.nd) (dip_seq (DF.dp (df_callB (cr_sortedD (rm64 hr)) vsorted (by rfl) T.z_sorted (by decide +kernel) (ds_cons (DF.dp (df_callTy (call_listAll rfl) vlist (by rfl) T.z_list (by decide +kernel) (ds_cons (dp_var 0) ds_nil))) ds_nil)))) (blkOk_by (N := N__law_settled) (sc := defScope s__law_settled) (own := [("_law_row", 1)]) (by decide +kernel)) (fun s_ H_ C_ cl_ fp_ => (dg_name 1 sc__law_settled.nd)) (fun s_ H_ C_ cl_ fp_ => (dts_one (dt_cmp (op_neD (rm64 hr)) vop_ne (dp_sub (rm1 hr) (dp_var 0) (dp_var 1) (fun _ _ => rfl) (fun _ _ => rfl)) (DF.dp df_int) rfl))) (fun s_ H_ C_ cl_ fp_ => (df_tup (ds_cons (dp_var 1) (ds_cons (dp_sub (rm1 hr) (dp_var 0) (dp_var 1) (fun _ _ => rfl) (fun _ _ => rfl)) ds_nil))))))))
theorem ok__law_settled (T : Txt K mg) : FnOk P w K mg base (L2.CX P w) 1 T.f__law_settled T.d__law_settled ["_law_counts"] (spP mg 1 (m_law_settled)) := fn_pure T.F__law_settled sc__law_settled (bd__law_settled T)
theorem bd__law_whole (T : Txt K mg) : BodyOk P w K mg base N__law_whole "_law_whole" (defScope s__law_whole) T.f__law_whole 0 (defBody s__law_whole) 1 (g_law_whole) := fun cdv A outer s H E hr tk hp =>
    (dss_one (ds_ret (dv_p (dp_andV (DF.dp (df_isi "int" (by rfl) T.z_isinstance (by rfl) T.z_int (by decide +kernel) (dp_var 0))) (df_one (DF.dp (df_notV (DF.dp (df_isi "bool" (by rfl) T.z_isinstance (by rfl) T.z_bool (by decide +kernel) (dp_var 0))))))))))
theorem ok__law_whole (T : Txt K mg) : FnOk P w K mg base (L2.CX P w) 1 T.f__law_whole T.d__law_whole ["_law_found"] (spP mg 1 (m_law_whole)) := fn_pure T.F__law_whole sc__law_whole (bd__law_whole T)
theorem bd_plus (T : Txt K mg) : BodyOk P w K mg base N_plus "plus" (defScope s_plus) T.f_plus 1 (defBody s_plus) 2 (g_plus) := fun cdv A outer s H E hr tk hp =>
    (dss_cons (ds_set 2 (dv_f (df_call (ok_counted T) (hr.mono (by decide)) (by rfl) T.g_counted T.F_counted.kp T.b_counted (plc pl0) (ds_cons (dp_var 0) ds_nil))) sc_plus.nd)
    (dss_cons (ds_for hp rfl (di_seq (dv_p (dp_var 1))) (dg_tup 2 (by rfl) (dgs_cons (dg_name 3 sc_plus.nd) (dgs_cons (dg_name 4 sc_plus.nd) dgs_nil))) (dss_one (ds_put 2 (rm1 hr) (dv_f (df_op2 op_addAll vop_add (dp_get2 (rm1 hr) (dp_var 2) (dp_var 3) (DF.dp df_int) ⟨by rfl, by rfl, by rfl, by rfl⟩) (dp_var 4))) (dv_p (dp_var 3)))))
    (dss_one (ds_ret (dv_f (df_call (ok_settled T) (hr.mono (by decide)) (by rfl) T.g_settled T.F_settled.kp T.b_settled (plc pl0) (ds_cons (dp_var 2) ds_nil)))))))
theorem ok_plus (T : Txt K mg) : FnOk P w K mg base (L2.CX P w) 2 T.f_plus T.d_plus ["one", "other"] (spP mg 2 (m_plus)) := fn_pure T.F_plus sc_plus (bd_plus T)
theorem bd__law_word (T : Txt K mg) : BodyOk P w K mg base N__law_word "_law_word" (defScope s__law_word) T.f__law_word 1 (defBody s__law_word) 2 (g_law_word) := fun cdv A outer s H E hr tk hp =>
    (dss_cons (ds_set 2 (dv_f df_str) sc__law_word.nd)
    (dss_one (ds_ret (dv_met ty_str PySem.F.plainAttrs_str PySem.F.slot_str_join PySem.F.type_str_join mt_join vjoin (dv_f df_str) (dvs_cons (dv_compV (by rfl) (by exact sc__law_word.nd) (di_rng1 (by rfl) T.z_range (dvs_cons (dv_p (dp_var 1)) dvs_nil) (fun _ _ _ => msOne)) (blkOk_by (N := N__law_word) (sc := defScope s__law_word) (own := [("_law_k", 3)]) (by decide +kernel)) (fun s_ H_ C_ cl_ fp_ => (dg_name 3 sc__law_word.nd)) (fun s_ H_ C_ cl_ fp_ => dvts_nil) (fun s_ H_ C_ cl_ fp_ => (dv_ixL 2 ix_seq vix (dv_callIO (ok__law_pull T) (hr.mono (by decide)) takes0 (by rfl) T.g__law_pull T.F__law_pull.kp T.b__law_pull rfl (als (alv al0)) (da_slot 0 (da_val (dv_f df_int) da_nil))) (fun _ _ => rfl)))) dvs_nil)))))
theorem ok__law_word (T : Txt K mg) : FnOk P w K mg base (L2.CX P w) 2 T.f__law_word T.d__law_word ["_law_bag_here", "_law_size"] (spIO mg 2 (m_law_word)) := fn_io T.F__law_word sc__law_word (bd__law_word T)
theorem bd__law_answers (T : Txt K mg) : BodyOk P w K mg base N__law_answers "_law_answers" (defScope s__law_answers) T.f__law_answers 1 (defBody s__law_answers) 3 (g_law_answers) := fun cdv A outer s H E hr tk hp =>
    (dss_one (ds_ret (dv_callTy call_tuple_of vtuple (by rfl) T.z_tuple (by decide +kernel) (dvs_cons (dv_compV (by rfl) (by exact sc__law_answers.nd) (di_rng1 (by rfl) T.z_range (dvs_cons (dv_p (dp_var 1)) dvs_nil) (fun _ _ _ => msOne)) (blkOk_by (N := N__law_answers) (sc := defScope s__law_answers) (own := [("_law_k", 3)]) (by decide +kernel)) (fun s_ H_ C_ cl_ fp_ => (dg_name 3 sc__law_answers.nd)) (fun s_ H_ C_ cl_ fp_ => dvts_nil) (fun s_ H_ C_ cl_ fp_ => (dv_callIO (ok__law_pull T) (hr.mono (by decide)) takes0 (by rfl) T.g__law_pull T.F__law_pull.kp T.b__law_pull rfl (als (als al0)) (da_slot 0 (da_slot 2 da_nil))))) dvs_nil))))
theorem ok__law_answers (T : Txt K mg) : FnOk P w K mg base (L2.CX P w) 2 T.f__law_answers T.d__law_answers ["_law_bag_here", "_law_size", "_law_base"] (spIO mg 3 (m_law_answers)) := fn_io T.F__law_answers sc__law_answers (bd__law_answers T)
theorem bd__law_many (T : Txt K mg) : BodyOk P w K mg base N__law_many "_law_many" (defScope s__law_many) T.f__law_many 1 (defBody s__law_many) 1 (g_law_many) := fun cdv A outer s H E hr tk hp =>
    (dss_one (ds_ret (dv_op2 op_addAll vop_add (dv_f df_int) (dv_callIO (ok__law_pull T) (hr.mono (by decide)) tk (by rfl) T.g__law_pull T.F__law_pull.kp T.b__law_pull rfl (als (alv al0)) (da_slot 0 (da_val (dv_ix ix_seq vix (dv_f (df_lst (ds_cons (DF.dp df_int) (ds_cons (DF.dp df_int) (ds_cons (DF.dp df_int) (ds_cons (DF.dp (df_op2 op_pow vop_pow (DF.dp df_int) (DF.dp df_int))) ds_nil)))))) (dv_callIO (ok__law_pull T) (hr.mono (by decide)) tk (by rfl) T.g__law_pull T.F__law_pull.kp T.b__law_pull rfl (als (alv al0)) (da_slot 0 (da_val (dv_f df_int) da_nil))) (fun _ _ => rfl)) da_nil))))))
theorem ok__law_many (T : Txt K mg) : FnOk P w K mg base (L2.CX P w) 2 T.f__law_many T.d__law_many ["_law_bag_here"] (spIO mg 1 (m_law_many)) := fn_io T.F__law_many sc__law_many (bd__law_many T)
theorem bd__law_tuple (T : Txt K mg) : BodyOk P w K mg base N__law_tuple "_law_tuple" (defScope s__law_tuple) T.f__law_tuple 1 (defBody s__law_tuple) 1 (g_law_tuple) := fun cdv A outer s H E hr tk hp =>
    (dss_cons (ds_if (dvt_p (dt_not (dt_val (DF.dp (df_isi "tuple" (by rfl) T.z_isinstance (by rfl) T.z_tuple (by decide +kernel) (dp_var 0)))))) (dss_one (ds_ret (dv_f df_bl))) dss_nil)
    (dss_one (ds_ret (dv_f (df_callB (cr_all rfl) vall (by rfl) T.z_all (by decide +kernel) (ds_cons (DF.dp (df_compV (by rfl) (by exact sc__law_tuple.nd) (dip_seq (dp_var 0)) (blkOk_by (N := N__law_tuple) (sc := defScope s__law_tuple) (own := [("_law_one", 1)]) (by decide +kernel)) (fun s_ H_ C_ cl_ fp_ => (dg_name 1 sc__law_tuple.nd)) (fun s_ H_ C_ cl_ fp_ => dts_nil) (fun s_ H_ C_ cl_ fp_ => (df_call (ok__law_whole T) (hr.mono (by decide)) (by rfl) T.g__law_whole T.F__law_whole.kp T.b__law_whole (plc pl0) (ds_cons (dp_var 1) ds_nil))))) ds_nil))))))
theorem ok__law_tuple (T : Txt K mg) : FnOk P w K mg base (L2.CX P w) 2 T.f__law_tuple T.d__law_tuple ["_law_found"] (spP mg 1 (m_law_tuple)) := fn_pure T.F__law_tuple sc__law_tuple (bd__law_tuple T)
theorem bd_less (T : Txt K mg) : BodyOk P w K mg base N_less "less" (defScope s_less) T.f_less 2 (defBody s_less) 2 (g_less) := fun cdv A outer s H E hr tk hp =>
    (dss_cons (ds_set 2 (dv_f (df_call (ok_counted T) (hr.mono (by decide)) (by rfl) T.g_counted T.F_counted.kp T.b_counted (plc pl0) (ds_cons (dp_var 0) ds_nil))) sc_less.nd)
    (dss_cons (ds_for hp rfl (di_seq (dv_p (dp_var 1))) (dg_tup 2 (by rfl) (dgs_cons (dg_name 3 sc_less.nd) (dgs_cons (dg_name 4 sc_less.nd) dgs_nil))) (dss_cons (ds_if (dvt_p (dt_cmp op_ltA vop_cmp (dp_get2 (rm1 hr) (dp_var 2) (dp_var 3) (DF.dp df_int) ⟨by rfl, by rfl, by rfl, by rfl⟩) (dp_var 4) rfl)) (dss_one (ds_raiseI (by rfl) tk T.gC_TooFew T.oX_TooFew T.iX_TooFew T.tX_TooFew (ok_init_TooFew T) (hr.mono (by decide)) T.bX_TooFew T.nX_TooFew (by rfl) (dp_var 3))) dss_nil)
    (dss_one (ds_put 2 (rm1 hr) (dv_f (df_op2 op_sub vop_sub (dp_sub (rm1 hr) (dp_var 2) (dp_var 3) (fun _ _ => rfl) (fun _ _ => rfl)) (dp_var 4))) (dv_p (dp_var 3))))))
    (dss_one (ds_ret (dv_f (df_call (ok_settled T) (hr.mono (by decide)) (by rfl) T.g_settled T.F_settled.kp T.b_settled (plc pl0) (ds_cons (dp_var 2) ds_nil)))))))
theorem ok_less (T : Txt K mg) : FnOk P w K mg base (L2.CX P w) 3 T.f_less T.d_less ["one", "other"] (spP mg 2 (m_less)) := fn_pure T.F_less sc_less (bd_less T)
theorem bd__law_names (T : Txt K mg) : BodyOk P w K mg base N__law_names "_law_names" (defScope s__law_names) T.f__law_names 2 (defBody s__law_names) 2 (g_law_names) := fun cdv A outer s H E hr tk hp =>
    (dss_cons (ds_set 2 (dv_f df_str) sc__law_names.nd)
    (dss_cons (ds_set 3 (dv_f (df_lst ds_nil)) sc__law_names.nd)
    (dss_cons (ds_set 4 (dv_callIO (ok__law_word T) (hr.mono (by decide)) tk (by rfl) T.g__law_word T.F__law_word.kp T.b__law_word rfl (als (alv al0)) (da_slot 0 (da_val (dv_ix ix_seq vix (dv_f (df_lst (ds_cons (DF.dp df_int) (ds_cons (DF.dp df_int) (ds_cons (DF.dp df_int) (ds_cons (DF.dp df_int) ds_nil)))))) (dv_callIO (ok__law_pull T) (hr.mono (by decide)) tk (by rfl) T.g__law_pull T.F__law_pull.kp T.b__law_pull rfl (als (alv al0)) (da_slot 0 (da_val (dv_f df_int) da_nil))) (fun _ _ => rfl)) da_nil))) sc__law_names.nd)
    (dss_cons (ds_for hp rfl (di_rng1 (by rfl) T.z_range (dvs_cons (dv_p (dp_var 1)) dvs_nil) (fun _ _ _ => msOne)) (dg_name 5 sc__law_names.nd) (dss_cons (ds_set 6 (dv_op2 op_addAll vop_add (dv_p (dp_var 4)) (dv_callIO (ok__law_word T) (hr.mono (by decide)) tk (by rfl) T.g__law_word T.F__law_word.kp T.b__law_word rfl (als (alv al0)) (da_slot 0 (da_val (dv_op2 op_addAll vop_add (dv_f df_int) (dv_callIO (ok__law_pull T) (hr.mono (by decide)) tk (by rfl) T.g__law_pull T.F__law_pull.kp T.b__law_pull rfl (als (alv al0)) (da_slot 0 (da_val (dv_f (df_op2 op_sub vop_sub (DF.dp df_int) (DF.dp (df_callB call_len vlen (by rfl) T.z_len (by decide +kernel) (ds_cons (dp_var 4) ds_nil))))) da_nil)))) da_nil)))) sc__law_names.nd)
    (dss_cons (ds_for hp rfl (di_rng1 (by rfl) T.z_range (dvs_cons (dv_f df_int) dvs_nil) (fun _ _ _ => msOne)) (dg_name 7 sc__law_names.nd) (dss_one (ds_if (dvt_p (dt_cmp (op_inAll (rm65 hr)) vop_in (dp_var 6) (dp_var 3) rfl)) (dss_one (ds_set 6 (dv_f (df_op2 op_addAll vop_add (DF.dp (df_sl (dp_var 6) dpo_none (dpo_some (DF.dp (df_op1 un_neg vop_neg (DF.dp df_int)))))) (dp_sub (rm1 hr) (dp_var 2) (dp_var 7) (fun _ _ => rfl) (fun _ _ => rfl)))) sc__law_names.nd)) dss_nil)))
    (dss_one (ds_expr (dv_meth 3 PySem.F.slot_list_append PySem.F.type_list_append mt_append vm_append (dvs_cons (dv_p (dp_var 6)) dvs_nil)))))))
    (dss_one (ds_ret (dv_move 3)))))))
theorem ok__law_names (T : Txt K mg) : FnOk P w K mg base (L2.CX P w) 3 T.f__law_names T.d__law_names ["_law_bag_here", "_law_many_here"] (spIO mg 2 (m_law_names)) := fn_io T.F__law_names sc__law_names (bd__law_names T)
theorem bd__law_drawn (T : Txt K mg) : BodyOk P w K mg base N__law_drawn "_law_drawn" (defScope s__law_drawn) T.f__law_drawn 2 (defBody s__law_drawn) 2 (g_law_drawn) := fun cdv A outer s H E hr tk hp =>
    (dss_cons (ds_set 2 (dv_f df_dnewT) sc__law_drawn.nd)
    (dss_cons (ds_set 3 (dv_ix ix_seq vix (dv_f (df_lst (ds_cons (DF.dp df_int) (ds_cons (DF.dp df_int) (ds_cons (DF.dp df_int) (ds_cons (DF.dp df_int) ds_nil)))))) (dv_callIO (ok__law_pull T) (hr.mono (by decide)) tk (by rfl) T.g__law_pull T.F__law_pull.kp T.b__law_pull rfl (als (alv al0)) (da_slot 0 (da_val (dv_f df_int) da_nil))) (fun _ _ => rfl)) sc__law_drawn.nd)
    (dss_cons (ds_for hp rfl (di_rng1 (by rfl) T.z_range (dvs_cons (dv_ix ix_seq vix (dv_f (df_lst (ds_cons (DF.dp df_int) (ds_cons (DF.dp df_int) (ds_cons (DF.dp df_int) (ds_cons (DF.dp df_int) (ds_cons (DF.dp df_int) (ds_cons (DF.dp df_int) (ds_cons (DF.dp df_int) (ds_cons (DF.dp df_int) (ds_cons (DF.dp df_int) (ds_cons (DF.dp df_int) ds_nil)))))))))))) (dv_callIO (ok__law_pull T) (hr.mono (by decide)) tk (by rfl) T.g__law_pull T.F__law_pull.kp T.b__law_pull rfl (als (alv al0)) (da_slot 0 (da_val (dv_f df_int) da_nil))) (fun _ _ => rfl)) dvs_nil) (fun _ _ _ => msOne)) (dg_name 4 sc__law_drawn.nd) (dss_one (ds_put 2 (rm1 hr) (dv_callIO (ok__law_many T) (hr.mono (by decide)) tk (by rfl) T.g__law_many T.F__law_many.kp T.b__law_many rfl (als al0) (da_slot 0 da_nil)) (dv_callIO (ok__law_answers T) (hr.mono (by decide)) tk (by rfl) T.g__law_answers T.F__law_answers.kp T.b__law_answers rfl (als (alv (als al0))) (da_slot 0 (da_val (dv_f (df_callB call_len vlen (by rfl) T.z_len (by decide +kernel) (ds_cons (dp_var 1) ds_nil))) (da_slot 3 da_nil)))))))
    (dss_one (ds_ret (dv_f (df_call (ok__law_settled T) (hr.mono (by decide)) (by rfl) T.g__law_settled T.F__law_settled.kp T.b__law_settled (plc pl0) (ds_cons (dp_var 2) ds_nil))))))))
theorem ok__law_drawn (T : Txt K mg) : FnOk P w K mg base (L2.CX P w) 3 T.f__law_drawn T.d__law_drawn ["_law_bag_here", "_law_room"] (spIO mg 2 (m_law_drawn)) := fn_io T.F__law_drawn sc__law_drawn (bd__law_drawn T)
theorem bd__law_same (T : Txt K mg) : BodyOk P w K mg base N__law_same "_law_same" (defScope s__law_same) T.f__law_same 2 (defBody s__law_same) 2 (g_law_same) := fun cdv A outer s H E hr tk hp =>
    (dss_cons (ds_if (dvt_p (DW.dt (dw_or (dt_not (dt_val (DF.dp (df_isi "list" (by rfl) T.z_isinstance (by rfl) T.z_list (by decide +kernel) (dp_var 0))))) (dw_or1 (dt_cmp (op_neD (rm64 hr)) vop_ne (DF.dp (df_callB call_len vlen (by rfl) T.z_len (by decide +kernel) (ds_cons (dp_var 0) ds_nil))) (DF.dp (df_callB call_len vlen (by rfl) T.z_len (by decide +kernel) (ds_cons (dp_var 1) ds_nil))) rfl))))) (dss_one (ds_ret (dv_f df_bl))) dss_nil)
    (dss_cons (ds_for hp rfl (di_rng1 (by rfl) T.z_range (dvs_cons (dv_f (df_callB call_len vlen (by rfl) T.z_len (by decide +kernel) (ds_cons (dp_var 1) ds_nil))) dvs_nil) (fun _ _ _ => msOne)) (dg_name 2 sc__law_same.nd) (dss_cons (ds_if (dvt_p (DW.dt (dw_or (dt_not (dt_val (DF.dp (df_isi "tuple" (by rfl) T.z_isinstance (by rfl) T.z_tuple (by decide +kernel) (dp_sub (rm1 hr) (dp_var 0) (dp_var 2) (fun _ _ => rfl) (fun _ _ => rfl)))))) (dw_or1 (dt_cmp (op_neD (rm64 hr)) vop_ne (DF.dp (df_callB call_len vlen (by rfl) T.z_len (by decide +kernel) (ds_cons (dp_sub (rm1 hr) (dp_var 0) (dp_var 2) (fun _ _ => rfl) (fun _ _ => rfl)) ds_nil))) (DF.dp df_int) rfl))))) (dss_one (ds_ret (dv_f df_bl))) dss_nil)
    (dss_one (ds_if (dvt_p (DW.dt (dw_or (dt_not (dt_val (DF.dp (df_call (ok__law_tuple T) (hr.mono (by decide)) (by rfl) T.g__law_tuple T.F__law_tuple.kp T.b__law_tuple (plc pl0) (ds_cons (dp_sub (rm1 hr) (dp_sub (rm1 hr) (dp_var 0) (dp_var 2) (fun _ _ => rfl) (fun _ _ => rfl)) (DF.dp df_int) (fun _ _ => rfl) (fun _ _ => rfl)) ds_nil))))) (dw_or (dt_not (dt_val (DF.dp (df_call (ok__law_whole T) (hr.mono (by decide)) (by rfl) T.g__law_whole T.F__law_whole.kp T.b__law_whole (plc pl0) (ds_cons (dp_sub (rm1 hr) (dp_sub (rm1 hr) (dp_var 0) (dp_var 2) (fun _ _ => rfl) (fun _ _ => rfl)) (DF.dp df_int) (fun _ _ => rfl) (fun _ _ => rfl)) ds_nil))))) (dw_or1 (dt_cmp (op_neD (rm64 hr)) vop_ne (dp_sub (rm1 hr) (dp_var 0) (dp_var 2) (fun _ _ => rfl) (fun _ _ => rfl)) (dp_sub (rm1 hr) (dp_var 1) (dp_var 2) (fun _ _ => rfl) (fun _ _ => rfl)) rfl)))))) (dss_one (ds_ret (dv_f df_bl))) dss_nil))))
    (dss_one (ds_ret (dv_f df_bl)))))
theorem ok__law_same (T : Txt K mg) : FnOk P w K mg base (L2.CX P w) 3 T.f__law_same T.d__law_same ["_law_found", "_law_due"] (spP mg 2 (m_law_same)) := fn_pure T.F__law_same sc__law_same (bd__law_same T)
theorem bd__law_minus (T : Txt K mg) : BodyOk P w K mg base N__law_minus "_law_minus" (defScope s__law_minus) T.f__law_minus 3 (defBody s__law_minus) 2 (g_law_minus) := fun cdv A outer s H E hr tk hp =>
    (dss_cons (ds_tryAs rfl rfl sc__law_minus.nd (by rfl) (by rfl) T.gC_TooFew ⟨by rfl, by decide, .inl T.gC_TooFew⟩ tk (fun W_ pn_ xe_ tk hp => (dss_one (ds_set 2 (dv_callP (ok_less T) (hr.mono (by decide)) tk (by rfl) T.g_less T.F_less.kp T.b_less (plc (plc pl0)) (ds_cons (dp_var 0) (ds_cons (dp_var 1) ds_nil))) sc__law_minus.nd))) (TabOk.get (tab_cons T.gC_TooFew T.x_TooFew_TooFew tab_nil)) (fun a_ oe_ cls_ d_ pn_ hz_ hf_ => pss_one (ps_asg (pe_tup (pa_cons pe_str (pa_cons (pe_xf T.xX_TooFew T.nX_TooFew hz_ hf_ (pv 3)) pa_nil))) (pg_name (i := 2) sc__law_minus.nd (by rfl) (by first | exact .inl rfl | exact .inr rfl)))))
    (dss_one (ds_ret (dv_move 2))))
theorem ok__law_minus (T : Txt K mg) : FnOk P w K mg base (L2.CX P w) 4 T.f__law_minus T.d__law_minus ["_law_one", "_law_other"] (spP mg 2 (m_law_minus)) := fn_pure T.F__law_minus sc__law_minus (bd__law_minus T)
theorem bd_law (T : Txt K mg) : BodyOk P w K mg base N_law "law" (defScope s_law) T.f_law 4 (defBody s_law) 1 (g_law_10 K) := fun cdv A outer s H E hr tk hp =>
    (dss_cons (ds_set 1 (dv_f (df_call (ok__law_bag T) (hr.mono (by decide)) (by rfl) T.g__law_bag T.F__law_bag.kp T.b__law_bag (plc pl0) (ds_cons (dp_var 0) ds_nil))) sc_law.nd)
    (dss_cons (ds_set 2 (dv_callTy call_tupleZ vtupleZ (by rfl) T.z_tuple (by decide +kernel) (dvs_cons (dv_callB (cr_sortedD (rm64 hr)) vsorted (by rfl) T.z_sorted (by decide +kernel) (dvs_cons (dv_callIO (ok__law_names T) (hr.mono (by decide)) tk (by rfl) T.g__law_names T.F__law_names.kp T.b__law_names rfl (als (alv al0)) (da_slot 1 (da_val (dv_callIO (ok__law_pull T) (hr.mono (by decide)) tk (by rfl) T.g__law_pull T.F__law_pull.kp T.b__law_pull rfl (als (alv al0)) (da_slot 1 (da_val (dv_f df_int) da_nil))) da_nil))) dvs_nil)) dvs_nil)) sc_law.nd)
    (dss_cons (ds_set 3 (dv_fz (dv_callIO (ok__law_drawn T) (hr.mono (by decide)) tk (by rfl) T.g__law_drawn T.F__law_drawn.kp T.b__law_drawn rfl (als (als al0)) (da_slot 1 (da_slot 2 da_nil)))) sc_law.nd)
    (dss_cons (ds_set 4 (dv_fz (dv_callIO (ok__law_drawn T) (hr.mono (by decide)) tk (by rfl) T.g__law_drawn T.F__law_drawn.kp T.b__law_drawn rfl (als (als al0)) (da_slot 1 (da_slot 2 da_nil)))) sc_law.nd)
    (dss_cons (ds_if (dvt_cmp (op_eqD (rm64 hr)) vop_eq (dv_callIO (ok__law_pull T) (hr.mono (by decide)) tk (by rfl) T.g__law_pull T.F__law_pull.kp T.b__law_pull rfl (als (alv al0)) (da_slot 1 (da_val (dv_f df_int) da_nil))) (dv_f df_int) rfl) (dss_one (ds_setLc 4 (by rfl) (by exact sc_law.nd) (di_seq (dv_p (dp_var 3))) (blkOk_by (N := N_law) (sc := defScope s_law) (own := [("_law_row", 6), ("_law_count", 7)]) (by decide +kernel)) (fun s_ H_ C_ cl_ fp_ => (dg_tup 2 (by rfl) (dgs_cons (dg_name 6 sc_law.nd) (dgs_cons (dg_name 7 sc_law.nd) dgs_nil)))) (fun s_ H_ C_ cl_ fp_ => (dvts_one (dvt_cmp op_gtA vop_cmp (dv_callIO (ok__law_pull T) (hr.mono (by decide)) takes0 (by rfl) T.g__law_pull T.F__law_pull.kp T.b__law_pull rfl (als (alv al0)) (da_slot 1 (da_val (dv_f df_int) da_nil))) (dv_f df_int) rfl))) (fun s_ H_ C_ cl_ fp_ => (dv_tup (dvs_cons (dv_p (dp_var 6)) (dvs_cons (dv_op2 op_addAll vop_add (dv_f df_int) (dv_callIO (ok__law_pull T) (hr.mono (by decide)) takes0 (by rfl) T.g__law_pull T.F__law_pull.kp T.b__law_pull rfl (als (als al0)) (da_slot 1 (da_slot 7 da_nil)))) dvs_nil)))))) dss_nil)
    (dss_cons (ds_set 5 (dv_f (df_callTy (call_dictT (by rfl) (rm64 hr)) vdict (by rfl) T.z_dict (by decide +kernel) (ds_cons (dp_var 3) ds_nil))) sc_law.nd)
    (dss_cons (ds_for hp rfl (di_seq (dv_frz 4)) (dg_tup 2 (by rfl) (dgs_cons (dg_name 6 sc_law.nd) (dgs_cons (dg_name 7 sc_law.nd) dgs_nil))) (dss_one (ds_put 5 (rm1 hr) (dv_f (df_op2 op_addAll vop_add (dp_get2 (rm1 hr) (dp_var 5) (dp_var 6) (DF.dp df_int) ⟨by rfl, by rfl, by rfl, by rfl⟩) (dp_var 7))) (dv_p (dp_var 6)))))
    (dss_cons (ds_set 8 (dv_lst (dvs_cons (dv_f (df_callTy (call_listAll rfl) vlist (by rfl) T.z_list (by decide +kernel) (ds_cons (dp_var 3) ds_nil))) (dvs_cons (dv_f (df_callTy (call_listAll rfl) vlist (by rfl) T.z_list (by decide +kernel) (ds_cons (dp_var 4) ds_nil))) dvs_nil))) sc_law.nd)
    (dss_cons (ds_set 9 (dv_f (df_call (ok_plus T) (hr.mono (by decide)) (by rfl) T.g_plus T.F_plus.kp T.b_plus (plc (plc pl0)) (ds_cons (dp_sub (rm1 hr) (dp_var 8) (DF.dp df_int) (fun _ _ => rfl) (fun _ _ => rfl)) (ds_cons (dp_sub (rm1 hr) (dp_var 8) (DF.dp df_int) (fun _ _ => rfl) (fun _ _ => rfl)) ds_nil)))) sc_law.nd)
    (dss_cons (ds_if (dvt_p (DW.dt (dw_or (dt_not (dt_val (DF.dp (df_call (ok__law_same T) (hr.mono (by decide)) (by rfl) T.g__law_same T.F__law_same.kp T.b__law_same (plc (plc pl0)) (ds_cons (dp_var 9) (ds_cons (DF.dp (df_call (ok__law_settled T) (hr.mono (by decide)) (by rfl) T.g__law_settled T.F__law_settled.kp T.b__law_settled (plc pl0) (ds_cons (dp_var 5) ds_nil))) ds_nil)))))) (dw_or1 (dt_cmp (op_neD (rm64 hr)) vop_ne (dp_var 8) (DF.dp (df_lst (ds_cons (dp_var 3) (ds_cons (dp_var 4) ds_nil)))) rfl))))) (dss_one (ds_ret (dv_f df_bl))) dss_nil)
    (dss_cons (ds_if (DVW.dvt (dvw_or (dvt_not (dvt_val (dv_callPB (ok__law_same T) (hr.mono (by decide)) tk (by rfl) T.g__law_same T.F__law_same.kp T.b__law_same rfl (alv (als al0)) (da_val (dv_callP (ok_less T) (hr.mono (by decide)) tk (by rfl) T.g_less T.F_less.kp T.b_less (plc (plc pl0)) (ds_cons (dp_var 9) (ds_cons (dp_sub (rm1 hr) (dp_var 8) (DF.dp df_int) (fun _ _ => rfl) (fun _ _ => rfl)) ds_nil))) (da_slot 3 da_nil))))) (dvw_or1 (dvt_not (dvt_val (dv_call (ok__law_same T) (hr.mono (by decide)) tk (by rfl) T.g__law_same T.F__law_same.kp T.b__law_same (vlc (vlc vl0)) (dvs_cons (dv_callP (ok_less T) (hr.mono (by decide)) tk (by rfl) T.g_less T.F_less.kp T.b_less (plc (plc pl0)) (ds_cons (dp_var 9) (ds_cons (dp_sub (rm1 hr) (dp_var 8) (DF.dp df_int) (fun _ _ => rfl) (fun _ _ => rfl)) ds_nil))) (dvs_cons (dv_frz 4) dvs_nil)))))))) (dss_one (ds_ret (dv_f df_bl))) dss_nil)
    (dss_cons (ds_set 10 (dv_f (df_lst (ds_cons (DF.dp (df_callB (cr_sum rfl) vsum (by rfl) T.z_sum (by decide +kernel) (ds_cons (DF.dp (df_compV (by rfl) (by exact sc_law.nd) (dip_seq (dp_var 3)) (blkOk_by (N := N_law) (sc := defScope s_law) (own := [("_law_row", 6), ("_law_count", 7)]) (by decide +kernel)) (fun s_ H_ C_ cl_ fp_ => (dg_tup 2 (by rfl) (dgs_cons (dg_name 6 sc_law.nd) (dgs_cons (dg_name 7 sc_law.nd) dgs_nil)))) (fun s_ H_ C_ cl_ fp_ => dts_nil) (fun s_ H_ C_ cl_ fp_ => (df_no (dp_var 7))))) ds_nil))) (ds_cons (DF.dp (df_callB (cr_sum rfl) vsum (by rfl) T.z_sum (by decide +kernel) (ds_cons (DF.dp (df_compV (by rfl) (by exact sc_law.nd) (dip_seq (dp_var 4)) (blkOk_by (N := N_law) (sc := defScope s_law) (own := [("_law_row", 6), ("_law_count", 7)]) (by decide +kernel)) (fun s_ H_ C_ cl_ fp_ => (dg_tup 2 (by rfl) (dgs_cons (dg_name 6 sc_law.nd) (dgs_cons (dg_name 7 sc_law.nd) dgs_nil)))) (fun s_ H_ C_ cl_ fp_ => dts_nil) (fun s_ H_ C_ cl_ fp_ => (df_no (dp_var 7))))) ds_nil))) ds_nil)))) sc_law.nd)
    (dss_cons (ds_if (dvt_p (DW.dt (dw_or (dt_not (dt_val (DF.dp (df_call (ok__law_whole T) (hr.mono (by decide)) (by rfl) T.g__law_whole T.F__law_whole.kp T.b__law_whole (plc pl0) (ds_cons (DF.dp (df_call (ok_total T) (hr.mono (by decide)) (by rfl) T.g_total T.F_total.kp T.b_total (plc pl0) (ds_cons (dp_var 9) ds_nil))) ds_nil))))) (dw_or (dt_cmp (op_neD (rm64 hr)) vop_ne (DF.dp (df_call (ok_total T) (hr.mono (by decide)) (by rfl) T.g_total T.F_total.kp T.b_total (plc pl0) (ds_cons (dp_var 9) ds_nil))) (DF.dp (df_op2 op_addAll vop_add (dp_sub (rm1 hr) (dp_var 10) (DF.dp df_int) (fun _ _ => rfl) (fun _ _ => rfl)) (dp_sub (rm1 hr) (dp_var 10) (DF.dp df_int) (fun _ _ => rfl) (fun _ _ => rfl)))) rfl) (dw_or1 (dt_cmp (op_neD (rm64 hr)) vop_ne (DF.dp (df_call (ok_total T) (hr.mono (by decide)) (by rfl) T.g_total T.F_total.kp T.b_total (plc pl0) (ds_cons (dp_var 3) ds_nil))) (dp_sub (rm1 hr) (dp_var 10) (DF.dp df_int) (fun _ _ => rfl) (fun _ _ => rfl)) rfl)))))) (dss_one (ds_ret (dv_f df_bl))) dss_nil)
    (dss_cons (ds_expr (dv_meth 9 PySem.F.slot_list_append PySem.F.type_list_append mt_append vm_append (dvs_cons (dv_f df_int) dvs_nil)))
    (dss_cons (ds_set 11 (dv_f (df_callTy (call_dictT (by rfl) (rm64 hr)) vdict (by rfl) T.z_dict (by decide +kernel) (ds_cons (dp_var 3) ds_nil))) sc_law.nd)
    (dss_cons (ds_setLcP 12 (by rfl) (by exact sc_law.nd) (dip_seq (dp_var 4)) (blkOk_by (N := N_law) (sc := defScope s_law) (own := [("_law_row", 6), ("_law_count", 7)]) (by decide +kernel)) (fun s_ H_ C_ cl_ fp_ => (dg_tup 2 (by rfl) (dgs_cons (dg_name 6 sc_law.nd) (dgs_cons (dg_name 7 sc_law.nd) dgs_nil)))) (fun s_ H_ C_ cl_ fp_ => (dts_one (dt_cmp op_ltA vop_cmp (dp_get2 (rm1 hr) (dp_var 11) (dp_var 6) (DF.dp df_int) ⟨by rfl, by rfl, by rfl, by rfl⟩) (dp_var 7) rfl))) (fun s_ H_ C_ cl_ fp_ => (df_no (dp_var 6))))
    (dss_cons (ds_set 13 (dv_callP (ok__law_minus T) (hr.mono (by decide)) tk (by rfl) T.g__law_minus T.F__law_minus.kp T.b__law_minus (plc (plc pl0)) (ds_cons (dp_sub (rm1 hr) (dp_var 8) (DF.dp df_int) (fun _ _ => rfl) (fun _ _ => rfl)) (ds_cons (dp_sub (rm1 hr) (dp_var 8) (DF.dp df_int) (fun _ _ => rfl) (fun _ _ => rfl)) ds_nil))) sc_law.nd)
    (dss_cons (ds_if (dvt_p (dt_cmp (op_neD (rm64 hr)) vop_ne (dp_var 12) (DF.dp (df_lst ds_nil)) rfl)) (dss_cons (ds_if (dvt_p (DW.dt (dw_or (dt_not (dt_val (DF.dp (df_isi "tuple" (by rfl) T.z_isinstance (by rfl) T.z_tuple (by decide +kernel) (dp_var 13))))) (dw_or1 (dt_not (dt_val (DF.dp (df_call (ok__law_tuple T) (hr.mono (by decide)) (by rfl) T.g__law_tuple T.F__law_tuple.kp T.b__law_tuple (plc pl0) (ds_cons (dp_sub (rm1 hr) (dp_var 13) (DF.dp df_int) (fun _ _ => rfl) (fun _ _ => rfl)) ds_nil))))))))) (dss_one (ds_ret (dv_f df_bl))) dss_nil)
    (dss_one (ds_ret (dv_p (dp_andV (DF.dp (df_cmp (op_eqD (rm64 hr)) vop_eq (dp_var 13) (DF.dp (df_tup (ds_cons (DF.dp df_str) (ds_cons (dp_sub (rm1 hr) (dp_var 12) (DF.dp df_int) (fun _ _ => rfl) (fun _ _ => rfl)) ds_nil)))) rfl)) (df_one (DF.dp (df_cmp (op_eqD (rm64 hr)) vop_eq (dp_var 8) (DF.dp (df_lst (ds_cons (dp_var 3) (ds_cons (dp_var 4) ds_nil)))) rfl)))))))) dss_nil)
    (dss_cons (ds_for hp rfl (di_seq (dv_frz 4)) (dg_tup 2 (by rfl) (dgs_cons (dg_name 6 sc_law.nd) (dgs_cons (dg_name 7 sc_law.nd) dgs_nil))) (dss_one (ds_augD 11 (rm1 hr) ip_sub vip_sub (dp_var 6) (dp_var 7))))
    (dss_cons (ds_if (dvt_p (dt_not (dt_val (DF.dp (df_call (ok__law_same T) (hr.mono (by decide)) (by rfl) T.g__law_same T.F__law_same.kp T.b__law_same (plc (plc pl0)) (ds_cons (dp_var 13) (ds_cons (DF.dp (df_call (ok__law_settled T) (hr.mono (by decide)) (by rfl) T.g__law_settled T.F__law_settled.kp T.b__law_settled (plc pl0) (ds_cons (dp_var 11) ds_nil))) ds_nil))))))) (dss_one (ds_ret (dv_f df_bl))) dss_nil)
    (dss_cons (ds_expr (dv_meth 13 PySem.F.slot_list_append PySem.F.type_list_append mt_append vm_append (dvs_cons (dv_f df_int) dvs_nil)))
    (dss_one (ds_ret (dv_f (df_cmp (op_eqD (rm64 hr)) vop_eq (dp_var 8) (DF.dp (df_lst (ds_cons (dp_var 3) (ds_cons (dp_var 4) ds_nil)))) rfl)))))))))))))))))))))))))
theorem ok_law (T : Txt K mg) : FnOk P w K mg base (L2.CX P w) 5 T.f_law T.d_law ["_law_script"] (spP mg 1 (m_law_10 K)) := fn_pure T.F_law sc_law (bd_law T)
end

def spLaw (K : PySem.W.Frag) : Sp := fun vs H Q _ => ∃ (a : Addr) (ns : List Int), vs = [.ref a] ∧ SqL K H a (ns.map V.int) ∧ ns.length ≤ 63 ∧ ∀ H', Q (.bl true) H'
theorem all_mk {P : Program} {w : World} {K : PySem.W.Frag} {h : Heap} {mg : MG} {fa : Addr} (X : K.In h) (G : h.Ns mainGlobals mg) (hfa : mg "law" = some (.ref fa))
    {f0 : Addr} {oc0 kV0 dc0 pm0 cd0 ct0 : Value} {od0 an0 : Option Addr} {sl0 : Array (Option Value)}
    (a0 : PySem.W.nsIn K mainGlobals "settled" = some (some (.ref f0))) (l0 : K.lookup f0 = some ⟨oc0, od0, .func (PySem.W.fnOf "settled" "settled" (defArgs s_settled) (defBody s_settled) (defScope s_settled) .none kV0 dc0 pm0 an0 cd0 ct0), sl0⟩) (c0 : PySem.W.codeIn K cd0 "settled" = true) (k0 : PySem.W.keepIn K (.ref f0) = true)
    {f1 : Addr} {oc1 kV1 dc1 pm1 cd1 ct1 : Value} {od1 an1 : Option Addr} {sl1 : Array (Option Value)}
    (a1 : PySem.W.nsIn K mainGlobals "counted" = some (some (.ref f1))) (l1 : K.lookup f1 = some ⟨oc1, od1, .func (PySem.W.fnOf "counted" "counted" (defArgs s_counted) (defBody s_counted) (defScope s_counted) .none kV1 dc1 pm1 an1 cd1 ct1), sl1⟩) (c1 : PySem.W.codeIn K cd1 "counted" = true) (k1 : PySem.W.keepIn K (.ref f1) = true)
    {f2 : Addr} {oc2 kV2 dc2 pm2 cd2 ct2 : Value} {od2 an2 : Option Addr} {sl2 : Array (Option Value)}
    (a2 : PySem.W.nsIn K mainGlobals "total" = some (some (.ref f2))) (l2 : K.lookup f2 = some ⟨oc2, od2, .func (PySem.W.fnOf "total" "total" (defArgs s_total) (defBody s_total) (defScope s_total) .none kV2 dc2 pm2 an2 cd2 ct2), sl2⟩) (c2 : PySem.W.codeIn K cd2 "total" = true) (k2 : PySem.W.keepIn K (.ref f2) = true)
    {f3 : Addr} {oc3 kV3 dc3 pm3 cd3 ct3 : Value} {od3 an3 : Option Addr} {sl3 : Array (Option Value)}
    (a3 : PySem.W.nsIn K mainGlobals "_law_bag" = some (some (.ref f3))) (l3 : K.lookup f3 = some ⟨oc3, od3, .func (PySem.W.fnOf "_law_bag" "_law_bag" (defArgs s__law_bag) (defBody s__law_bag) (defScope s__law_bag) .none kV3 dc3 pm3 an3 cd3 ct3), sl3⟩) (c3 : PySem.W.codeIn K cd3 "_law_bag" = true) (k3 : PySem.W.keepIn K (.ref f3) = true)
    {f4 : Addr} {oc4 kV4 dc4 pm4 cd4 ct4 : Value} {od4 an4 : Option Addr} {sl4 : Array (Option Value)}
    (a4 : PySem.W.nsIn K mainGlobals "_law_pull" = some (some (.ref f4))) (l4 : K.lookup f4 = some ⟨oc4, od4, .func (PySem.W.fnOf "_law_pull" "_law_pull" (defArgs s__law_pull) (defBody s__law_pull) (defScope s__law_pull) .none kV4 dc4 pm4 an4 cd4 ct4), sl4⟩) (c4 : PySem.W.codeIn K cd4 "_law_pull" = true) (k4 : PySem.W.keepIn K (.ref f4) = true)
    {f5 : Addr} {oc5 kV5 dc5 pm5 cd5 ct5 : Value} {od5 an5 : Option Addr} {sl5 : Array (Option Value)}
    (a5 : PySem.W.nsIn K mainGlobals "_law_settled" = some (some (.ref f5))) (l5 : K.lookup f5 = some ⟨oc5, od5, .func (PySem.W.fnOf "_law_settled" "_law_settled" (defArgs s__law_settled) (defBody s__law_settled) (defScope s__law_settled) .none kV5 dc5 pm5 an5 cd5 ct5), sl5⟩) (c5 : PySem.W.codeIn K cd5 "_law_settled" = true) (k5 : PySem.W.keepIn K (.ref f5) = true)
    {f6 : Addr} {oc6 kV6 dc6 pm6 cd6 ct6 : Value} {od6 an6 : Option Addr} {sl6 : Array (Option Value)}
    (a6 : PySem.W.nsIn K mainGlobals "_law_whole" = some (some (.ref f6))) (l6 : K.lookup f6 = some ⟨oc6, od6, .func (PySem.W.fnOf "_law_whole" "_law_whole" (defArgs s__law_whole) (defBody s__law_whole) (defScope s__law_whole) .none kV6 dc6 pm6 an6 cd6 ct6), sl6⟩) (c6 : PySem.W.codeIn K cd6 "_law_whole" = true) (k6 : PySem.W.keepIn K (.ref f6) = true)
    {f7 : Addr} {oc7 kV7 dc7 pm7 cd7 ct7 : Value} {od7 an7 : Option Addr} {sl7 : Array (Option Value)}
    (a7 : PySem.W.nsIn K mainGlobals "plus" = some (some (.ref f7))) (l7 : K.lookup f7 = some ⟨oc7, od7, .func (PySem.W.fnOf "plus" "plus" (defArgs s_plus) (defBody s_plus) (defScope s_plus) .none kV7 dc7 pm7 an7 cd7 ct7), sl7⟩) (c7 : PySem.W.codeIn K cd7 "plus" = true) (k7 : PySem.W.keepIn K (.ref f7) = true)
    {f8 : Addr} {oc8 kV8 dc8 pm8 cd8 ct8 : Value} {od8 an8 : Option Addr} {sl8 : Array (Option Value)}
    (a8 : PySem.W.nsIn K mainGlobals "_law_word" = some (some (.ref f8))) (l8 : K.lookup f8 = some ⟨oc8, od8, .func (PySem.W.fnOf "_law_word" "_law_word" (defArgs s__law_word) (defBody s__law_word) (defScope s__law_word) .none kV8 dc8 pm8 an8 cd8 ct8), sl8⟩) (c8 : PySem.W.codeIn K cd8 "_law_word" = true) (k8 : PySem.W.keepIn K (.ref f8) = true)
    {f9 : Addr} {oc9 kV9 dc9 pm9 cd9 ct9 : Value} {od9 an9 : Option Addr} {sl9 : Array (Option Value)}
    (a9 : PySem.W.nsIn K mainGlobals "_law_answers" = some (some (.ref f9))) (l9 : K.lookup f9 = some ⟨oc9, od9, .func (PySem.W.fnOf "_law_answers" "_law_answers" (defArgs s__law_answers) (defBody s__law_answers) (defScope s__law_answers) .none kV9 dc9 pm9 an9 cd9 ct9), sl9⟩) (c9 : PySem.W.codeIn K cd9 "_law_answers" = true) (k9 : PySem.W.keepIn K (.ref f9) = true)
    {f10 : Addr} {oc10 kV10 dc10 pm10 cd10 ct10 : Value} {od10 an10 : Option Addr} {sl10 : Array (Option Value)}
    (a10 : PySem.W.nsIn K mainGlobals "_law_many" = some (some (.ref f10))) (l10 : K.lookup f10 = some ⟨oc10, od10, .func (PySem.W.fnOf "_law_many" "_law_many" (defArgs s__law_many) (defBody s__law_many) (defScope s__law_many) .none kV10 dc10 pm10 an10 cd10 ct10), sl10⟩) (c10 : PySem.W.codeIn K cd10 "_law_many" = true) (k10 : PySem.W.keepIn K (.ref f10) = true)
    {f11 : Addr} {oc11 kV11 dc11 pm11 cd11 ct11 : Value} {od11 an11 : Option Addr} {sl11 : Array (Option Value)}
    (a11 : PySem.W.nsIn K mainGlobals "_law_tuple" = some (some (.ref f11))) (l11 : K.lookup f11 = some ⟨oc11, od11, .func (PySem.W.fnOf "_law_tuple" "_law_tuple" (defArgs s__law_tuple) (defBody s__law_tuple) (defScope s__law_tuple) .none kV11 dc11 pm11 an11 cd11 ct11), sl11⟩) (c11 : PySem.W.codeIn K cd11 "_law_tuple" = true) (k11 : PySem.W.keepIn K (.ref f11) = true)
    {f12 : Addr} {oc12 kV12 dc12 pm12 cd12 ct12 : Value} {od12 an12 : Option Addr} {sl12 : Array (Option Value)}
    (a12 : PySem.W.nsIn K mainGlobals "less" = some (some (.ref f12))) (l12 : K.lookup f12 = some ⟨oc12, od12, .func (PySem.W.fnOf "less" "less" (defArgs s_less) (defBody s_less) (defScope s_less) .none kV12 dc12 pm12 an12 cd12 ct12), sl12⟩) (c12 : PySem.W.codeIn K cd12 "less" = true) (k12 : PySem.W.keepIn K (.ref f12) = true)
    {f13 : Addr} {oc13 kV13 dc13 pm13 cd13 ct13 : Value} {od13 an13 : Option Addr} {sl13 : Array (Option Value)}
    (a13 : PySem.W.nsIn K mainGlobals "_law_names" = some (some (.ref f13))) (l13 : K.lookup f13 = some ⟨oc13, od13, .func (PySem.W.fnOf "_law_names" "_law_names" (defArgs s__law_names) (defBody s__law_names) (defScope s__law_names) .none kV13 dc13 pm13 an13 cd13 ct13), sl13⟩) (c13 : PySem.W.codeIn K cd13 "_law_names" = true) (k13 : PySem.W.keepIn K (.ref f13) = true)
    {f14 : Addr} {oc14 kV14 dc14 pm14 cd14 ct14 : Value} {od14 an14 : Option Addr} {sl14 : Array (Option Value)}
    (a14 : PySem.W.nsIn K mainGlobals "_law_drawn" = some (some (.ref f14))) (l14 : K.lookup f14 = some ⟨oc14, od14, .func (PySem.W.fnOf "_law_drawn" "_law_drawn" (defArgs s__law_drawn) (defBody s__law_drawn) (defScope s__law_drawn) .none kV14 dc14 pm14 an14 cd14 ct14), sl14⟩) (c14 : PySem.W.codeIn K cd14 "_law_drawn" = true) (k14 : PySem.W.keepIn K (.ref f14) = true)
    {f15 : Addr} {oc15 kV15 dc15 pm15 cd15 ct15 : Value} {od15 an15 : Option Addr} {sl15 : Array (Option Value)}
    (a15 : PySem.W.nsIn K mainGlobals "_law_same" = some (some (.ref f15))) (l15 : K.lookup f15 = some ⟨oc15, od15, .func (PySem.W.fnOf "_law_same" "_law_same" (defArgs s__law_same) (defBody s__law_same) (defScope s__law_same) .none kV15 dc15 pm15 an15 cd15 ct15), sl15⟩) (c15 : PySem.W.codeIn K cd15 "_law_same" = true) (k15 : PySem.W.keepIn K (.ref f15) = true)
    {f16 : Addr} {oc16 kV16 dc16 pm16 cd16 ct16 : Value} {od16 an16 : Option Addr} {sl16 : Array (Option Value)}
    (a16 : PySem.W.nsIn K mainGlobals "_law_minus" = some (some (.ref f16))) (l16 : K.lookup f16 = some ⟨oc16, od16, .func (PySem.W.fnOf "_law_minus" "_law_minus" (defArgs s__law_minus) (defBody s__law_minus) (defScope s__law_minus) .none kV16 dc16 pm16 an16 cd16 ct16), sl16⟩) (c16 : PySem.W.codeIn K cd16 "_law_minus" = true) (k16 : PySem.W.keepIn K (.ref f16) = true)
    {f17 : Addr} {oc17 kV17 dc17 pm17 cd17 ct17 : Value} {od17 an17 : Option Addr} {sl17 : Array (Option Value)}
    (a17 : PySem.W.nsIn K mainGlobals "law" = some (some (.ref f17))) (l17 : K.lookup f17 = some ⟨oc17, od17, .func (PySem.W.fnOf "law" "law" (defArgs s_law) (defBody s_law) (defScope s_law) .none kV17 dc17 pm17 an17 cd17 ct17), sl17⟩) (c17 : PySem.W.codeIn K cd17 "law" = true) (k17 : PySem.W.keepIn K (.ref f17) = true)
    (z0 : PySem.W.nsIn K mainGlobals "all" = some none)
    (z1 : PySem.W.nsIn K mainGlobals "bool" = some none)
    (z2 : PySem.W.nsIn K mainGlobals "dict" = some none)
    (z3 : PySem.W.nsIn K mainGlobals "int" = some none)
    (z4 : PySem.W.nsIn K mainGlobals "isinstance" = some none)
    (z5 : PySem.W.nsIn K mainGlobals "len" = some none)
    (z6 : PySem.W.nsIn K mainGlobals "list" = some none)
    (z7 : PySem.W.nsIn K mainGlobals "range" = some none)
    (z8 : PySem.W.nsIn K mainGlobals "sorted" = some none)
    (z9 : PySem.W.nsIn K mainGlobals "sum" = some none)
    (z10 : PySem.W.nsIn K mainGlobals "tuple" = some none)
    {C0 fI0 : Addr} (ca0 : PySem.W.nsIn K mainGlobals "TooFew" = some (some (.ref C0))) (ck0 : PySem.W.keepIn K (.ref C0) = true) (cs0 : PySem.W.subIn K (.ref C0) (.type "BaseException") = some true) (cy0 : PySem.W.typeIn K (.ref C0) = some (.type "type")) (ci0 : PySem.W.isClsIn K C0 = true)
    {nm0 qq0 NN0 bs0 bm0 sn0 sb0 ab0 co0 dd0 kk00 kk10 kk20 kk30 kk50 : _} (cl0 : K.lookup C0 = some (excClassObj nm0 qq0 C0 NN0 bs0 bm0 true sn0 sb0 ab0 co0 dd0 kk00 kk10 kk20 kk30 kk50 "ValueError.__new__")) (cr0 : PySem.HandSPX.refsVE bm0 = true) (cS0 : PySem.W.findIn K (.ref C0) "__setattr__" = some (some (.builtin "object.__setattr__")))
    (cI0 : PySem.W.findIn K (.ref C0) "__init__" = some (some (.ref fI0))) (cT0 : PySem.W.typeIn K (.ref fI0) = some (.type "function")) (cn0 : PySem.W.findIn K (.ref C0) "row" = some none) (cG0 : PySem.W.findIn K (.ref C0) "__getattribute__" = some (some (.builtin "BaseException.__getattribute__"))) (cg0 : PySem.W.findIn K (.ref C0) "__getattr__" = some none) (ch0 : PySem.W.hasDictIn K C0 = true)
    {ioc0 ikV0 idc0 ipm0 icd0 ict0 : Value} {iod0 ian0 : Option Addr} {isl0 : Array (Option Value)} (il0 : K.lookup fI0 = some ⟨ioc0, iod0, .func (PySem.W.fnOf "__init__" "TooFew.__init__" (defArgs si_TooFew) (defBody si_TooFew) (defScope si_TooFew) .none ikV0 idc0 ipm0 ian0 icd0 ict0), isl0⟩) (ic0 : PySem.W.codeIn K icd0 "TooFew.__init__" = true) (ik0 : PySem.W.keepIn K (.ref fI0) = true)
    (xs0_0 : PySem.W.subIn K (.ref C0) (.ref C0) = some true) :
    ∃ fd : FuncData, (∀ (s : Shared) (v : Value), BindsTo s fd ⟨[v], []⟩ [("_law_script", v)]) ∧ ∀ base : Heap, K.In base → base.Ns mainGlobals mg → FnOk P w K mg base (L2.CX P w) 5 fa fd ["_law_script"] (spLaw K) := by
  have e := hfa.symm.trans (PySem.W.mg_of X G a17)
  cases e
  let T : Txt K mg := {
    f_settled := f0, d_settled := _, F_settled := fun_mk l0 c0 k0, g_settled := PySem.W.mg_of X G a0, b_settled := ((fun_mk (st := s_settled) l0 c0 k0).binds (ps := ["counts"]) fun _ _ _ _ _ _ us hl => (match us, hl with | [_], _ => rfl)),
    f_counted := f1, d_counted := _, F_counted := fun_mk l1 c1 k1, g_counted := PySem.W.mg_of X G a1, b_counted := ((fun_mk (st := s_counted) l1 c1 k1).binds (ps := ["rows"]) fun _ _ _ _ _ _ us hl => (match us, hl with | [_], _ => rfl)),
    f_total := f2, d_total := _, F_total := fun_mk l2 c2 k2, g_total := PySem.W.mg_of X G a2, b_total := ((fun_mk (st := s_total) l2 c2 k2).binds (ps := ["rows"]) fun _ _ _ _ _ _ us hl => (match us, hl with | [_], _ => rfl)),
    f__law_bag := f3, d__law_bag := _, F__law_bag := fun_mk l3 c3 k3, g__law_bag := PySem.W.mg_of X G a3, b__law_bag := ((fun_mk (st := s__law_bag) l3 c3 k3).binds (ps := ["_law_script"]) fun _ _ _ _ _ _ us hl => (match us, hl with | [_], _ => rfl)),
    f__law_pull := f4, d__law_pull := _, F__law_pull := fun_mk l4 c4 k4, g__law_pull := PySem.W.mg_of X G a4, b__law_pull := ((fun_mk (st := s__law_pull) l4 c4 k4).binds (ps := ["_law_bag_here", "_law_many_here"]) fun _ _ _ _ _ _ us hl => (match us, hl with | [_, _], _ => rfl)),
    f__law_settled := f5, d__law_settled := _, F__law_settled := fun_mk l5 c5 k5, g__law_settled := PySem.W.mg_of X G a5, b__law_settled := ((fun_mk (st := s__law_settled) l5 c5 k5).binds (ps := ["_law_counts"]) fun _ _ _ _ _ _ us hl => (match us, hl with | [_], _ => rfl)),
    f__law_whole := f6, d__law_whole := _, F__law_whole := fun_mk l6 c6 k6, g__law_whole := PySem.W.mg_of X G a6, b__law_whole := ((fun_mk (st := s__law_whole) l6 c6 k6).binds (ps := ["_law_found"]) fun _ _ _ _ _ _ us hl => (match us, hl with | [_], _ => rfl)),
    f_plus := f7, d_plus := _, F_plus := fun_mk l7 c7 k7, g_plus := PySem.W.mg_of X G a7, b_plus := ((fun_mk (st := s_plus) l7 c7 k7).binds (ps := ["one", "other"]) fun _ _ _ _ _ _ us hl => (match us, hl with | [_, _], _ => rfl)),
    f__law_word := f8, d__law_word := _, F__law_word := fun_mk l8 c8 k8, g__law_word := PySem.W.mg_of X G a8, b__law_word := ((fun_mk (st := s__law_word) l8 c8 k8).binds (ps := ["_law_bag_here", "_law_size"]) fun _ _ _ _ _ _ us hl => (match us, hl with | [_, _], _ => rfl)),
    f__law_answers := f9, d__law_answers := _, F__law_answers := fun_mk l9 c9 k9, g__law_answers := PySem.W.mg_of X G a9, b__law_answers := ((fun_mk (st := s__law_answers) l9 c9 k9).binds (ps := ["_law_bag_here", "_law_size", "_law_base"]) fun _ _ _ _ _ _ us hl => (match us, hl with | [_, _, _], _ => rfl)),
    f__law_many := f10, d__law_many := _, F__law_many := fun_mk l10 c10 k10, g__law_many := PySem.W.mg_of X G a10, b__law_many := ((fun_mk (st := s__law_many) l10 c10 k10).binds (ps := ["_law_bag_here"]) fun _ _ _ _ _ _ us hl => (match us, hl with | [_], _ => rfl)),
    f__law_tuple := f11, d__law_tuple := _, F__law_tuple := fun_mk l11 c11 k11, g__law_tuple := PySem.W.mg_of X G a11, b__law_tuple := ((fun_mk (st := s__law_tuple) l11 c11 k11).binds (ps := ["_law_found"]) fun _ _ _ _ _ _ us hl => (match us, hl with | [_], _ => rfl)),
    f_less := f12, d_less := _, F_less := fun_mk l12 c12 k12, g_less := PySem.W.mg_of X G a12, b_less := ((fun_mk (st := s_less) l12 c12 k12).binds (ps := ["one", "other"]) fun _ _ _ _ _ _ us hl => (match us, hl with | [_, _], _ => rfl)),
    f__law_names := f13, d__law_names := _, F__law_names := fun_mk l13 c13 k13, g__law_names := PySem.W.mg_of X G a13, b__law_names := ((fun_mk (st := s__law_names) l13 c13 k13).binds (ps := ["_law_bag_here", "_law_many_here"]) fun _ _ _ _ _ _ us hl => (match us, hl with | [_, _], _ => rfl)),
    f__law_drawn := f14, d__law_drawn := _, F__law_drawn := fun_mk l14 c14 k14, g__law_drawn := PySem.W.mg_of X G a14, b__law_drawn := ((fun_mk (st := s__law_drawn) l14 c14 k14).binds (ps := ["_law_bag_here", "_law_room"]) fun _ _ _ _ _ _ us hl => (match us, hl with | [_, _], _ => rfl)),
    f__law_same := f15, d__law_same := _, F__law_same := fun_mk l15 c15 k15, g__law_same := PySem.W.mg_of X G a15, b__law_same := ((fun_mk (st := s__law_same) l15 c15 k15).binds (ps := ["_law_found", "_law_due"]) fun _ _ _ _ _ _ us hl => (match us, hl with | [_, _], _ => rfl)),
    f__law_minus := f16, d__law_minus := _, F__law_minus := fun_mk l16 c16 k16, g__law_minus := PySem.W.mg_of X G a16, b__law_minus := ((fun_mk (st := s__law_minus) l16 c16 k16).binds (ps := ["_law_one", "_law_other"]) fun _ _ _ _ _ _ us hl => (match us, hl with | [_, _], _ => rfl)),
    f_law := fa, d_law := _, F_law := fun_mk l17 c17 k17, g_law := PySem.W.mg_of X G a17, b_law := ((fun_mk (st := s_law) l17 c17 k17).binds (ps := ["_law_script"]) fun _ _ _ _ _ _ us hl => (match us, hl with | [_], _ => rfl)),
    C_TooFew := C0, gC_TooFew := PySem.W.mg_of X G ca0, oX_TooFew := ⟨⟨_, _, _, _, _, _, _, _, _, _, _, _, _, _, _, cl0, cr0⟩, cS0, cs0, cy0, ck0⟩, fI_TooFew := fI0, dI_TooFew := _, iX_TooFew := cI0, tX_TooFew := cT0, FX_TooFew := fun_mk il0 ic0 ik0, bX_TooFew := ((fun_mk (st := si_TooFew) il0 ic0 ik0).binds (ps := ["self", "row"]) fun _ _ _ _ _ _ us hl => (match us, hl with | [_, _], _ => rfl)), nX_TooFew := cn0, xX_TooFew := ⟨cG0, cg0, cs0, ch0⟩,
    x_TooFew_TooFew := exm_of cs0 ci0 cy0 xs0_0,
    z_all := PySem.W.mg_none_of X G z0,
    z_bool := PySem.W.mg_none_of X G z1,
    z_dict := PySem.W.mg_none_of X G z2,
    z_int := PySem.W.mg_none_of X G z3,
    z_isinstance := PySem.W.mg_none_of X G z4,
    z_len := PySem.W.mg_none_of X G z5,
    z_list := PySem.W.mg_none_of X G z6,
    z_range := PySem.W.mg_none_of X G z7,
    z_sorted := PySem.W.mg_none_of X G z8,
    z_sum := PySem.W.mg_none_of X G z9,
    z_tuple := PySem.W.mg_none_of X G z10 }
  refine ⟨T.d_law, fun s v => .of_eq rfl, fun base _ _ => (ok_law T).imp fun vs H Q E h => ?_⟩
  obtain ⟨a, ns, rfl, hS, hl, q⟩ := h
  exact law_start hS (law_true K ns hl) q
end RT
open PyProof.Rows PySem.W PySem
set_option maxHeartbeats 0 in -- all of it
theorem PySem.Challenge.cw_roomtally_k08_tallies_added_and_taken_holds : PySem.Challenge.rw_roomtally_k08_tallies_added_and_taken.Holds := by
  w_on; o_law; k_head; (case hw => w_witness2)
  k_fill
  refine L2.walk_of (l := PySem.Challenge.rw_roomtally_k08_tallies_added_and_taken) (n := 63) (k := 5) (x := "_law_script") (CX := fun w => L2.CX (PySem.Challenge.rw_roomtally_k08_tallies_added_and_taken).prog w) (sp := fun w => RT.spLaw _) rfl (by decide) rfl ⟨rfl, by decide, by decide⟩ (fun w h Y => PySem.W.kIn_of Y) ?F (fun _ _ a ns hl _ hS => ⟨a, ns, rfl, hS, hl, fun _ => rfl⟩) (fun _ _ _ _ _ h => h.elim fun _ ⟨_, _, _, _, _, _, _, _, _, _, _, z⟩ => z)
  case F =>
    intro w mg fa h KX G hmg
    refine' RT.all_mk KX G hmg ?a0 ?l0 ?c0 ?k0 ?a1 ?l1 ?c1 ?k1 ?a2 ?l2 ?c2 ?k2 ?a3 ?l3 ?c3 ?k3 ?a4 ?l4 ?c4 ?k4 ?a5 ?l5 ?c5 ?k5 ?a6 ?l6 ?c6 ?k6 ?a7 ?l7 ?c7 ?k7 ?a8 ?l8 ?c8 ?k8 ?a9 ?l9 ?c9 ?k9 ?a10 ?l10 ?c10 ?k10 ?a11 ?l11 ?c11 ?k11 ?a12 ?l12 ?c12 ?k12 ?a13 ?l13 ?c13 ?k13 ?a14 ?l14 ?c14 ?k14 ?a15 ?l15 ?c15 ?k15 ?a16 ?l16 ?c16 ?k16 ?a17 ?l17 ?c17 ?k17 ?z0 ?z1 ?z2 ?z3 ?z4 ?z5 ?z6 ?z7 ?z8 ?z9 ?z10 ?ca0 ?ck0 ?cs0 ?cy0 ?ci0 ?cl0 ?cr0 ?cS0 ?cI0 ?cT0 ?cn0 ?cG0 ?cg0 ?ch0 ?il0 ?ic0 ?ik0 ?xs0_0
    (case a0 => k_is); (case l0 => k_is); (case c0 => k_is); (case k0 => k_is); (case a1 => k_is); (case l1 => k_is); (case c1 => k_is); (case k1 => k_is); (case a2 => k_is); (case l2 => k_is); (case c2 => k_is); (case k2 => k_is); (case a3 => k_is); (case l3 => k_is); (case c3 => k_is); (case k3 => k_is); (case a4 => k_is); (case l4 => k_is); (case c4 => k_is); (case k4 => k_is); (case a5 => k_is); (case l5 => k_is); (case c5 => k_is); (case k5 => k_is); (case a6 => k_is); (case l6 => k_is); (case c6 => k_is); (case k6 => k_is); (case a7 => k_is); (case l7 => k_is); (case c7 => k_is); (case k7 => k_is); (case a8 => k_is); (case l8 => k_is); (case c8 => k_is); (case k8 => k_is); (case a9 => k_is); (case l9 => k_is); (case c9 => k_is); (case k9 => k_is); (case a10 => k_is); (case l10 => k_is); (case c10 => k_is); (case k10 => k_is); (case a11 => k_is); (case l11 => k_is); (case c11 => k_is); (case k11 => k_is); (case a12 => k_is); (case l12 => k_is); (case c12 => k_is); (case k12 => k_is); (case a13 => k_is); (case l13 => k_is); (case c13 => k_is); (case k13 => k_is); (case a14 => k_is); (case l14 => k_is); (case c14 => k_is); (case k14 => k_is); (case a15 => k_is); (case l15 => k_is); (case c15 => k_is); (case k15 => k_is); (case a16 => k_is); (case l16 => k_is); (case c16 => k_is); (case k16 => k_is); (case a17 => k_is); (case l17 => k_is); (case c17 => k_is); (case k17 => k_is); (case z0 => k_is); (case z1 => k_is); (case z2 => k_is); (case z3 => k_is); (case z4 => k_is); (case z5 => k_is); (case z6 => k_is); (case z7 => k_is); (case z8 => k_is); (case z9 => k_is); (case z10 => k_is); (case ca0 => k_is); (case ck0 => k_is); (case cs0 => k_is); (case cy0 => k_is); (case ci0 => k_is); (case cl0 => k_is); (case cr0 => rfl); (case cS0 => k_is); (case cI0 => k_is); (case cT0 => k_is); (case cn0 => k_is); (case cG0 => k_is); (case cg0 => k_is); (case ch0 => k_is); (case il0 => k_is); (case ic0 => k_is); (case ik0 => k_is); (case xs0_0 => k_is)

